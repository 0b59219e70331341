import PyProof.Rows.All
import Wide.All
import OpenK.AllK
import Wide.FinOn
import PyProof.EqAt
import PyProof.EqKinds
import PyProof.TupleCall
import HandS.ForMost
import HandS.ForExc
import HandS.Evl
import HandS.Flow
import HandS.Codes
import HandS.IsInst
import HandS.ExcInit
import HandS.ExcField
import HandS.ExcIs
import HandS.TupLe
import HandS.TupAny
import HandS.Lambda
import HandS.EndTab
import HandS.DictTup
import HandS.SetKeys
import HandS.Wide
import KE.KExcIs
import KE.SortKeyHeap
import KE.KRevSl
import KE.KDictKeyed
import KE.KDictCopyH
import HandS.TupLen
import HandS.Style
import HandS.Conv
import HandS.EndBits
import PySem.Challenge.RW_bornandshut_k25_cascades_and_least_shado
section
set_option autoImplicit false
namespace K25
/-- how many sets of k of n numbers, by Pascal's rule -/
def C : Nat → Nat → Nat
  | _, 0 => 1
  | 0, _ + 1 => 0
  | n + 1, k + 1 => C n k + C n (k + 1)
theorem C_zero (n : Nat) : C n 0 = 1 := by cases n <;> rfl
theorem C_succ (n k : Nat) : C (n + 1) (k + 1) = C n k + C n (k + 1) := rfl
theorem C_big : ∀ (n k : Nat), n < k → C n k = 0
  | 0, 0, h => absurd h (by omega)
  | 0, k + 1, _ => rfl
  | n + 1, 0, h => absurd h (by omega)
  | n + 1, k + 1, h => by rw [C_succ, C_big n k (by omega), C_big n (k + 1) (by omega)]
theorem C_self : ∀ n, C n n = 1
  | 0 => rfl
  | n + 1 => by rw [C_succ, C_self n, C_big n (n + 1) (by omega)]
theorem C_one : ∀ n, C n 1 = n
  | 0 => rfl
  | n + 1 => by rw [C_succ, C_zero, C_one n]; omega
theorem C_pos : ∀ (n k : Nat), k ≤ n → 1 ≤ C n k
  | n, 0, _ => by rw [C_zero]; exact Nat.le_refl 1
  | 0, k + 1, h => absurd h (by omega)
  | n + 1, k + 1, h => by rw [C_succ]; have := C_pos n k (by omega); omega
theorem C_step (n k : Nat) : C n k ≤ C (n + 1) k := by
  cases k with
  | zero => rw [C_zero, C_zero]; exact Nat.le_refl 1
  | succ k => rw [C_succ]; omega
theorem C_mono {m n : Nat} (k : Nat) (h : m ≤ n) : C m k ≤ C n k := by
  induction h with
  | refl => exact Nat.le_refl _
  | step _ ih => exact Nat.le_trans ih (C_step _ _)
/-- (k + 1) C(n, k + 1) = (n - k) C(n, k) -/
theorem C_mul : ∀ (n k : Nat), C n (k + 1) * (k + 1) + C n k * k = C n k * n
  | 0, 0 => rfl
  | 0, k + 1 => by rw [C_big 0 (k + 2) (by omega), C_big 0 (k + 1) (by omega)]; simp
  | n + 1, 0 => by rw [C_one, C_zero]; omega
  | n + 1, k + 1 => by
    have h1 := C_mul n (k + 1)
    have h2 := C_mul n k
    rw [C_succ n (k + 1), C_succ n k]
    generalize C n (k + 2) = a at *
    generalize C n (k + 1) = b at *
    generalize C n k = c at *
    -- h1 : a * (k+2) + b * (k+1) = b * n ; h2 : b * (k+1) + c * k = c * n
    have e1 : a * (k + 1 + 1) + b * (k + 1) = b * n := h1
    have e2 : b * (k + 1) + c * k = c * n := h2
    show (b + a) * (k + 1 + 1) + (c + b) * (k + 1) = (c + b) * (n + 1)
    have x1 : (b + a) * (k + 1 + 1) = b * (k + 1) + b + a * (k + 1 + 1) := by
      rw [Nat.add_mul, Nat.mul_succ b]
    have x2 : (c + b) * (k + 1) = c * k + c + b * (k + 1) := by rw [Nat.add_mul, Nat.mul_succ c]
    have x3 : (c + b) * (n + 1) = c * n + c + (b * n + b) := by rw [Nat.add_mul, Nat.mul_succ, Nat.mul_succ]
    omega
/-- the loop's turn of the program: C(a, k) * (a - k) // (k + 1) -/
theorem C_turn {a k : Nat} (h : k ≤ a) : C a k * (a - k) = C a (k + 1) * (k + 1) := by
  have e := C_mul a k
  rw [Nat.mul_sub]
  omega
/-- the turn of the law's: C(m + n, n) * (m + n + 1) // (n + 1) -/
theorem C_diag : ∀ (m n : Nat), C (m + n) n * (m + n + 1) = C (m + n + 1) (n + 1) * (n + 1)
  | m, n => by
    have e := C_mul (m + n) n
    rw [C_succ]
    generalize C (m + n) (n + 1) = a at *
    generalize C (m + n) n = b at *
    have x1 : (b + a) * (n + 1) = b * n + b + a * (n + 1) := by rw [Nat.add_mul, Nat.mul_succ b]
    have x2 : b * (m + n + 1) = b * (m + n) + b := by rw [Nat.mul_succ]
    omega
theorem C_ge : ∀ (i s : Nat), s ≤ C (i + s) (i + 1)
  | i, 0 => Nat.zero_le _
  | i, s + 1 => by
    have h := C_ge i s
    have p := C_pos (i + s) i (by omega)
    show s + 1 ≤ C (i + s + 1) (i + 1)
    rw [C_succ]
    omega
/-- the greatest number below a bound of which there are no more than n sets -/
def topG (k n : Nat) : Nat → Nat
  | 0 => 0
  | m + 1 => if C (m + 1) k ≤ n then m + 1 else topG k n m
def top (k n : Nat) : Nat := topG k n (n + k)
theorem topG_le (k n : Nat) : ∀ m, C 0 k ≤ n → C (topG k n m) k ≤ n
  | 0, h => h
  | m + 1, h => by
    unfold topG
    by_cases e : C (m + 1) k ≤ n
    · rw [if_pos e]; exact e
    · rw [if_neg e]; exact topG_le k n m h
theorem topG_gt (k n : Nat) : ∀ m j, topG k n m < j → j ≤ m → n < C j k
  | 0, j, h1, h2 => by unfold topG at h1; omega
  | m + 1, j, h1, h2 => by
    unfold topG at h1
    by_cases e : C (m + 1) k ≤ n
    · rw [if_pos e] at h1; omega
    · rw [if_neg e] at h1
      by_cases q : j = m + 1
      · rw [q]; omega
      · exact topG_gt k n m j h1 (by omega)
theorem top_le {k n : Nat} : C (top (k + 1) n) (k + 1) ≤ n := topG_le _ _ _ (by rw [C_big 0 (k + 1) (by omega)]; exact Nat.zero_le _)
theorem top_gt {k n : Nat} : n < C (top (k + 1) n + 1) (k + 1) := by
  by_cases h : top (k + 1) n + 1 ≤ n + (k + 1)
  · exact topG_gt (k + 1) n (n + (k + 1)) _ (Nat.lt_succ_self _) h
  · have h1 := C_ge k (n + 1)
    have h2 : C (k + (n + 1)) (k + 1) ≤ C (top (k + 1) n + 1) (k + 1) := C_mono _ (by omega)
    omega
theorem top_eq {k n a : Nat} (h1 : C a (k + 1) ≤ n) (h2 : n < C (a + 1) (k + 1)) : top (k + 1) n = a := by
  have t1 := @top_le k n
  have t2 := @top_gt k n
  rcases Nat.lt_trichotomy (top (k + 1) n) a with h | h | h
  · have := C_mono (k + 1) (show top (k + 1) n + 1 ≤ a by omega)
    omega
  · exact h
  · have := C_mono (k + 1) (show a + 1 ≤ top (k + 1) n by omega)
    omega
theorem top_ge {k n : Nat} (h : 0 < n) : k + 1 ≤ top (k + 1) n := by
  have t2 := @top_gt k n
  rcases Nat.lt_or_ge (top (k + 1) n) (k + 1) with q | q
  · have h1 := C_mono (k + 1) (show top (k + 1) n + 1 ≤ k + 1 by omega)
    rw [C_self] at h1
    omega
  · exact q
theorem topG_bound (k n : Nat) : ∀ m, topG k n m ≤ m
  | 0 => Nat.le_refl _
  | m + 1 => by
    unfold topG
    split
    · exact Nat.le_refl _
    · exact Nat.le_succ_of_le (topG_bound k n m)
theorem top_bound {k n : Nat} : top (k + 1) n ≤ n + (k + 1) := topG_bound _ _ _
/-- the cascade -/
def casc : Nat → Nat → List (Nat × Nat)
  | 0, _ => []
  | k + 1, n => if n = 0 then [] else (top (k + 1) n, k + 1) :: casc k (n - C (top (k + 1) n) (k + 1))
theorem casc_nil (k : Nat) : casc k 0 = [] := by cases k <;> simp [casc]
theorem casc_cons {k n : Nat} (h : 0 < n) : casc (k + 1) n = (top (k + 1) n, k + 1) :: casc k (n - C (top (k + 1) n) (k + 1)) := by
  show (if n = 0 then _ else _) = _
  rw [if_neg (by omega)]
theorem rest_lt {k n : Nat} : n - C (top (k + 1) n) (k + 1) < C (top (k + 1) n) k := by
  have t1 := @top_le k n
  have t2 := @top_gt k n
  rw [C_succ] at t2
  omega
theorem rest_one {n : Nat} : n - C (top (0 + 1) n) (0 + 1) = 0 := by
  have := @rest_lt 0 n
  rw [C_zero] at this
  omega
/-- the cascade of a number, seen as the law sees it -/
def Falls (k : Nat) : List (Nat × Nat) → Prop
  | [] => True
  | (a, i) :: r => i = k ∧ 1 ≤ i ∧ i ≤ a ∧ (∀ p ∈ r.head?, p.1 < a) ∧ Falls (k - 1) r
theorem casc_falls : ∀ k n, Falls k (casc k n)
  | 0, n => True.intro
  | k + 1, n => by
    by_cases h : n = 0
    · rw [h, casc_nil]; exact True.intro
    · rw [casc_cons (by omega)]
      refine ⟨rfl, by omega, top_ge (by omega), fun p hp => ?_, casc_falls k _⟩
      cases k with
      | zero => simp [casc] at hp
      | succ k =>
        have r := @rest_lt (k + 1) n
        generalize n - C (top (k + 1 + 1) n) (k + 1 + 1) = m at *
        by_cases hm : m = 0
        · rw [hm, casc_nil] at hp; simp at hp
        · rw [casc_cons (by omega)] at hp
          simp at hp
          subst hp
          show top (k + 1) m < _
          have t1 := @top_le k m
          rcases Nat.lt_or_ge (top (k + 1) m) (top (k + 1 + 1) n) with q | q
          · exact q
          · have := C_mono (k + 1) q
            omega
theorem falls_len : ∀ {l : List (Nat × Nat)} {k : Nat}, Falls k l → l.length ≤ k
  | [], _, _ => Nat.zero_le _
  | (a, i) :: r, k, ⟨h1, h2, _, _, h5⟩ => by
    have := falls_len h5
    show r.length + 1 ≤ k
    omega
def sumC (l : List (Nat × Nat)) : Nat := (l.map fun p => C p.1 p.2).sum
def sumB (l : List (Nat × Nat)) : Nat := (l.map fun p => C p.1 (p.2 - 1)).sum
theorem casc_sum : ∀ k n, (k = 0 → n = 0) → sumC (casc k n) = n
  | 0, n, h => by rw [h rfl]; rfl
  | k + 1, n, _ => by
    by_cases h : n = 0
    · rw [h, casc_nil]; rfl
    · rw [casc_cons (by omega)]
      have ih := casc_sum k (n - C (top (k + 1) n) (k + 1)) (fun e => by subst e; exact rest_one)
      have t := @top_le k n
      show C (top (k + 1) n) (k + 1) + sumC (casc k (n - C (top (k + 1) n) (k + 1))) = n
      omega
def shad (k n : Nat) : Nat := sumB (casc k n)
theorem shad_zero (k : Nat) : shad k 0 = 0 := by unfold shad; rw [casc_nil]; rfl
theorem shad_cons {k n : Nat} (h : 0 < n) : shad (k + 1) n = C (top (k + 1) n) k + shad k (n - C (top (k + 1) n) (k + 1)) := by
  unfold shad
  rw [casc_cons h]
  rfl
/-- the shadow of as many sets as there are of a numbers -/
theorem shad_C {a k : Nat} (h : k + 1 ≤ a) : shad (k + 1) (C a (k + 1)) = C a k := by
  have p := C_pos a (k + 1) h
  have q := C_pos a k (by omega)
  have e : top (k + 1) (C a (k + 1)) = a := top_eq (Nat.le_refl _) (by rw [C_succ]; omega)
  rw [shad_cons (by omega), e, Nat.sub_self, shad_zero]
  rfl
/-- one set more: the shadow doesn't fall, and grows by k at most -/
theorem shad_step : ∀ k n, 1 ≤ k → shad k n ≤ shad k (n + 1) ∧ shad k (n + 1) ≤ shad k n + k
  | 0, n, h => absurd h (by omega)
  | k + 1, n, _ => by
    by_cases h0 : n = 0
    · subst h0
      have e : shad (k + 1) (0 + 1) = k + 1 := by
        have h := @shad_C (k + 1) k (Nat.le_refl _)
        rw [C_self] at h
        rw [show (0 : Nat) + 1 = 1 from rfl, h]
        have h2 := C_mul (k + 1) k
        rw [C_self] at h2
        have h3 : C (k + 1) k * (k + 1) = C (k + 1) k * k + C (k + 1) k := Nat.mul_succ _ _
        omega
      rw [e, shad_zero]
      omega
    · have hn : 0 < n := by omega
      have t1 := @top_le k n
      have t2 := @top_gt k n
      have tg := @top_ge k n hn
      have hr := @rest_lt k n
      by_cases hs : n + 1 < C (top (k + 1) n + 1) (k + 1)
      · have e : top (k + 1) (n + 1) = top (k + 1) n := top_eq (by omega) hs
        rw [shad_cons hn, shad_cons (show 0 < n + 1 by omega), e]
        have es : n + 1 - C (top (k + 1) n) (k + 1) = n - C (top (k + 1) n) (k + 1) + 1 := by omega
        rw [es]
        cases k with
        | zero =>
          exfalso
          rw [C_one] at hs t1
          omega
        | succ k =>
          have ih := shad_step (k + 1) (n - C (top (k + 1 + 1) n) (k + 1 + 1)) (by omega)
          omega
      · have en : n + 1 = C (top (k + 1) n + 1) (k + 1) := by omega
        have e1 : shad (k + 1) (n + 1) = C (top (k + 1) n + 1) k := by rw [en]; exact shad_C (by omega)
        rw [e1, shad_cons hn]
        cases k with
        | zero =>
          rw [C_zero, C_zero]
          have : shad 0 (n - C (top (0 + 1) n) (0 + 1)) = 0 := rfl
          omega
        | succ k =>
          rw [C_succ]
          have er : n - C (top (k + 1 + 1) n) (k + 1 + 1) + 1 = C (top (k + 1 + 1) n) (k + 1) := by
            rw [C_succ] at en
            omega
          have ih := shad_step (k + 1) (n - C (top (k + 1 + 1) n) (k + 1 + 1)) (by omega)
          have e2 : shad (k + 1) (C (top (k + 1 + 1) n) (k + 1)) = C (top (k + 1 + 1) n) k := shad_C (by omega)
          rw [er, e2] at ih
          omega
end K25
end
section
set_option Elab.async false
set_option linter.all false
set_option maxRecDepth 100000
set_option maxHeartbeats 4000000
/-! what stands under every law here: calls of defs by their promises -/
namespace LB
open PySem PySem.Spec PyProof.Rows L2
/-- a def of the text, under its name -/
structure Dn (K : PySem.W.Frag) (mg : Str → Option Value) (x : Str) (st : Stmt) (ps : List Str) : Prop where
  ex : ∃ (f : Addr) (fd : FuncData), L2.Fun K x x st f fd ∧ mg x = some (.ref f) ∧ L2.Binds K fd ps []
/-- a def that may be called by its name; it lets no exception out -/
structure Cal (P : Program) (w : World) (K : PySem.W.Frag) (mg : Str → Option Value) (base : Heap) (k : Nat) (x : Str) (sp : Sp) : Prop where
  ex : ∃ (f : Addr) (fd : FuncData) (ps : List Str), FnOk P w K mg base CX0 k f fd ps sp ∧ mg x = some (.ref f) ∧ PySem.W.keepIn K (.ref f) = true ∧ Binds K fd ps []
/-- .. it may let one out -/
structure CalX (P : Program) (w : World) (K : PySem.W.Frag) (mg : Str → Option Value) (base : Heap) (k : Nat) (x : Str) (sp : Sp) : Prop where
  ex : ∃ (f : Addr) (fd : FuncData) (ps : List Str), FnOk P w K mg base (L2.CX P w) k f fd ps sp ∧ mg x = some (.ref f) ∧ PySem.W.keepIn K (.ref f) = true ∧ Binds K fd ps []
section
variable {P : Program} {w : World} {K : PySem.W.Frag} {mg : Str → Option Value} {base : Heap}
theorem cal_of {x : Str} {st : Stmt} {N ps : List Str} {k : Nat} {sp : Sp} (D : Dn K mg x st ps) (S : FnScope N ps (defScope st)) (len : ∀ vs H Q E, sp vs H Q E → vs.length = ps.length)
    (hbody : ∀ (f : Addr) (cdv : Value) (A : Around) (outer : List Env) (s : Shared) (H : Hp) (vs : List V) (Q : VK) (E : XK), Room k (A.deeper (envOfC x (defScope st) s.heap.objs.size f cdv)) → sp vs H Q E →
      ∃ t, PSs (cxOf CX0 P w K mg base N x (defScope st) f cdv A outer s H E).nox (defBody st) t ∧ t { nx := fun _ H' => Q .non H', rt := Q } (start N vs) H) : Cal P w K mg base (k + 1) x sp := by
  obtain ⟨f, fd, F, hm, b⟩ := D.ex
  exact ⟨f, fd, ps, F.ok S len (hbody f), hm, F.kp, b⟩
theorem calx_of {x : Str} {st : Stmt} {N ps : List Str} {k : Nat} {sp : Sp} (D : Dn K mg x st ps) (S : FnScope N ps (defScope st)) (len : ∀ vs H Q E, sp vs H Q E → vs.length = ps.length)
    (hbody : ∀ (f : Addr) (cdv : Value) (A : Around) (outer : List Env) (s : Shared) (H : Hp) (vs : List V) (Q : VK) (E : XK), Room k (A.deeper (envOfC x (defScope st) s.heap.objs.size f cdv)) → sp vs H Q E →
      ∃ t, PSs (cxOf (L2.CX P w) P w K mg base N x (defScope st) f cdv A outer s H E) (defBody st) t ∧ t { nx := fun _ H' => Q .non H', rt := Q } (start N vs) H) : CalX P w K mg base (k + 1) x sp := by
  obtain ⟨f, fd, F, hm, b⟩ := D.ex
  exact ⟨f, fd, ps, F.okX S len (hbody f), hm, F.kp, b⟩
end
section
variable {X : Cx} {k j : Nat} {x : Str} {sp : Sp} {p pos : Pos} {e : Expr} {es : List Expr} {t : TA}
theorem pe_c (c : Cal X.prog X.w X.K X.mg X.base k x sp) (hr : Room j X.A) (hk : k ≤ j) (hg : Gl X x) (ha : PA X (e :: es) t)
    (hdb : (x == ("__debug__" : Str)) = false := by decide) (he : starEach (e :: es) X.env = (false, eval e X.env) :: starEach es X.env := by rfl) (hpl : (backTo pos (starEach es X.env)).any (·.1) = false := by rfl) :
    PE X (.Call (.Name x p) (e :: es) [] pos) (tCall sp [] E0 t) := by
  obtain ⟨f, fd, ps, F, hm, kp, b⟩ := c.ex
  exact pe_call F (hr.mono hk) hg hm kp b .nil pass0 ha hdb he hpl
/-- a def that may raise, called where it doesn't -/
theorem pe_cx (c : CalX X.prog X.w X.K X.mg X.base k x sp) (hr : Room j X.A) (hk : k ≤ j) (hg : Gl X x) (ha : PA X (e :: es) t)
    (hdb : (x == ("__debug__" : Str)) = false := by decide) (he : starEach (e :: es) X.env = (false, eval e X.env) :: starEach es X.env := by rfl) (hpl : (backTo pos (starEach es X.env)).any (·.1) = false := by rfl) :
    PE X (.Call (.Name x p) (e :: es) [] pos) (tCall sp [] E0 t) := by
  obtain ⟨f, fd, ps, F, hm, kp, b⟩ := c.ex
  exact pe_call F (hr.mono hk) hg hm kp b .nil passL ha hdb he hpl
/-- .. called in a def that lets the exception out -/
theorem pe_cE {E : XK} (tk : Takes X (fun cls d _ H => E cls d H)) (c : CalX X.prog X.w X.K X.mg X.base k x sp) (hr : Room j X.A) (hk : k ≤ j) (hg : Gl X x) (ha : PA X (e :: es) t)
    (hdb : (x == ("__debug__" : Str)) = false := by decide) (he : starEach (e :: es) X.env = (false, eval e X.env) :: starEach es X.env := by rfl) (hpl : (backTo pos (starEach es X.env)).any (·.1) = false := by rfl) :
    PE X (.Call (.Name x p) (e :: es) [] pos) (tCall sp [] E t) := by
  obtain ⟨f, fd, ps, F, hm, kp, b⟩ := c.ex
  exact pe_call F (hr.mono hk) hg hm kp b .nil (passes_call tk fun _ _ _ _ h => h) ha hdb he hpl
end
section
variable {X : Cx} {pos : Pos}
/-- pg_tup, the written part told (within a comprehension) -/
theorem pg_tupK {K : PySem.W.Frag} {es : List Expr} {k : Nat} {t : TGs} (n : Nat) (hK : X.K = K) (hc : X.calm = true) (h : PGs X es t)
    (hn : (assignEach es X.env).length = n := by rfl) (hst : (assignEach es X.env).findIdx? (·.1) = none := by rfl) : PG X (.Tuple es k pos) (gTup K n t) := by
  rw [← hK]
  exact pg_tup hc h hn hst
end
/-! ### a conditional expression as a test -/
section
variable {X : Cx} {a b c : Expr} {pos : Pos} {tA tu tw : TT}
def tIfT (t u w : TT) : TT := fun σ H Q => t σ H fun c H1 => if c = true then u σ H1 Q else w σ H1 Q
theorem pt_ifExp (hc : PT X c tA) (ha : PT X a tu) (hb : PT X b tw) : PT X (.IfExp c a b pos) (tIfT tA tu tw) := by
  refine ⟨fun pins s σ H Q I h => ?_⟩
  refine PyProof.Rows.isTrue_IfExp (thn (hc.run pins s σ H _ I h) fun d s1 ⟨H1, I1, q1⟩ => ?_)
  cases d with
  | true => exact ha.run pins s1 σ H1 Q I1 q1
  | false => exact hb.run pins s1 σ H1 Q I1 q1
end
/-! ### rules that name the written part, it told (within a comprehension) -/
section
variable {X : Cx} {K : PySem.W.Frag}
theorem ixK_list (hK : X.K = K) : IxR X (rIxL K) := hK ▸ ix_list
theorem ixK_tup (hK : X.K = K) : IxR X (rIxT K) := hK ▸ ix_tup
theorem ixK_seq (hK : X.K = K) : IxR X (rIx K) := hK ▸ ix_seq
theorem slK_list (hK : X.K = K) : SlR X (rSlL K) := hK ▸ sl_list
theorem slK_tup (hK : X.K = K) : SlR X (rSlA K) := hK ▸ sl_tupA
theorem opK_cat (hK : X.K = K) : OpR X (binaryOp .Add) (rCatA K) := hK ▸ op_catA
theorem opK_ltT (hK : X.K = K) (hu : X.A.units < cLine) : OpR X (compareOp .Lt) (rLtT K) := hK ▸ op_ltT hu
theorem opK_eqD (hK : X.K = K) (hu : X.A.units + 64 < cLine) : OpR X (compareOp .Eq) (rEqD K) := hK ▸ op_eqD hu
theorem opK_neD (hK : X.K = K) (hu : X.A.units + 64 < cLine) : OpR X (compareOp .NotEq) (rNeD K) := hK ▸ op_neD hu
theorem opK_in (hK : X.K = K) : OpR X (compareOp .In) (rIn K false) := hK ▸ op_in_seq
theorem opK_notIn (hK : X.K = K) : OpR X (compareOp .NotIn) (rIn K true) := hK ▸ op_notIn_seq
theorem callK_isi (hK : X.K = K) : CallR X (.builtin "isinstance") (rIsi K) := hK ▸ call_isi
def rLenQ (K : PySem.W.Frag) : List V → Hp → VK → Prop := fun xs H Q => ∃ p ys, xs = [.ref p] ∧ (SqL K H p ys ∨ SqT K H p ys) ∧ Q (.int ys.length) H
theorem callK_len (hK : X.K = K) : CallR X (.builtin "len") (rLenQ K) := hK ▸ call_len_seq
theorem crK_sum (hK : X.K = K) (hc : X.calm = true) : CallR X (.builtin "sum") (rSum K) := hK ▸ cr_sum hc
def rTupO (K : PySem.W.Frag) : List V → Hp → VK → Prop := fun xs H Q => ∃ p ys, xs = [.ref p] ∧ ((SqL K H p ys ∧ ∀ l, H l = none → Q (.ref l) (upd H l (.tup ys))) ∨ (SqT K H p ys ∧ Q (.ref p) H))
theorem callK_tup (hK : X.K = K) : CallR X (.type "tuple") (rTupO K) := hK ▸ call_tuple_of
theorem piK_list {tg l : Expr} {tl : TE} (hK : X.K = K) (hl : PE X l tl) : PI X tg l (iList K tl) := hK ▸ pi_list hl
theorem piK_tup {tg l : Expr} {tl : TE} (hK : X.K = K) (hl : PE X l tl) : PI X tg l (iTup K tl) := hK ▸ pi_tup hl
end
/-! ### heaps without what changes -/
section
open Evl
def cut (S : List Addr) (H : Hp) : Hp := fun a => if a ∈ S then none else H a
theorem cut_in {S : List Addr} {H : Hp} {a : Addr} (h : a ∈ S) : cut S H a = none := if_pos h
theorem cut_out {S : List Addr} {H : Hp} {a : Addr} (h : a ∉ S) : cut S H a = H a := if_neg h
theorem cut_some {S : List Addr} {H : Hp} {a : Addr} {o : HO} (h : cut S H a = some o) : a ∉ S ∧ H a = some o := by
  by_cases e : a ∈ S
  · rw [cut_in e] at h; cases h
  · rw [cut_out e] at h; exact ⟨e, h⟩
theorem cut_nil {H : Hp} : cut [] H = H := by
  funext a; exact cut_out (by simp)
theorem ex_cut {S : List Addr} {H : Hp} : Ex (cut S H) H := fun _ _ h => (cut_some h).2
/-- all but S stays -/
def But (S : List Addr) (H H' : Hp) : Prop := ∀ a o, a ∉ S → H a = some o → H' a = some o
theorem But.refl {S : List Addr} {H : Hp} : But S H H := fun _ _ _ h => h
theorem But.trans {S : List Addr} {H H1 H2 : Hp} (a : But S H H1) (b : But S H1 H2) : But S H H2 := fun x o n h => b x o n (a x o n h)
theorem But.of {S : List Addr} {H H' : Hp} (e : Ex H H') : But S H H' := fun a o _ h => e a o h
theorem But.more {S T : List Addr} {H H' : Hp} (b : But S H H') (h : ∀ a ∈ S, a ∈ T) : But T H H' := fun a o n q => b a o (fun z => n (h a z)) q
theorem But.cut {S : List Addr} {H H' : Hp} (b : But S H H') : Ex (cut S H) (cut S H') := fun a o h => by
  obtain ⟨n, q⟩ := cut_some h
  rw [cut_out n]
  exact b a o n q
theorem But.new {S : List Addr} {H : Hp} {p : Addr} {o : HO} (h : H p = none) : But S H (upd H p o) := But.of (Ex.new h)
theorem But.put {S : List Addr} {H : Hp} {p : Addr} {o : HO} (h : p ∈ S) : But S H (upd H p o) := fun a u n q => by
  rw [upd_ne (fun z : a = p => n (by rw [z]; exact h))]
  exact q
/-- what was not tracked ahead may change -/
theorem But.drop {p : Addr} {S : List Addr} {H H' : Hp} (b : But (p :: S) H H') (h : H p = none) : But S H H' := fun a o n q => by
  refine b a o (fun z => ?_) q
  rcases List.mem_cons.mp z with e | e
  · rw [e, h] at q; cases q
  · exact n e
theorem But.ex {S : List Addr} {H H' : Hp} (b : But S H H') (h : ∀ a ∈ S, H a = none) : Ex H H' := fun a o q => b a o (fun z => by rw [h a z] at q; cases q) q
end
/-! ### data -/
section
open Evl
variable {K : PySem.W.Frag}
mutual
theorem dp_ext {H H' : Hp} (e : Ex H H') : ∀ (d : PyData) (v : V), Dp K H v d → Dp K H' v d
  | .none, _, h => by cases h; exact .non
  | .bool b, _, h => by cases h; exact .bl b
  | .int i, _, h => by cases h; exact .int i
  | .str x, _, h => by cases h; exact .str x
  | .list ds, _, h => by
    cases h with
    | lst hs ha => exact .lst (ex_l e hs) (dpAll_ext e ds _ ha)
  | .tuple ds, _, h => by
    cases h with
    | tup hs ha => exact .tup (ex_t e hs) (dpAll_ext e ds _ ha)
  | .dict _, _, h => by cases h
theorem dpAll_ext {H H' : Hp} (e : Ex H H') : ∀ (ds : List PyData) (vs : List V), DpAll K H vs ds → DpAll K H' vs ds
  | [], _, h => by cases h; exact .nil
  | d :: ds, _, h => by
    cases h with
    | cons h1 h2 => exact .cons (dp_ext e d _ h1) (dpAll_ext e ds _ h2)
end
end
end LB
namespace L2
open PySem PySem.Spec PyProof.Rows LB Evl
section
variable {K : PySem.W.Frag}
theorem Dp.up {H H' : Hp} {v : V} {d : PyData} (h : Dp K H v d) (e : Ex H H') : Dp K H' v d := dp_ext e d v h
theorem DpAll.up {H H' : Hp} {vs : List V} {ds : List PyData} (h : DpAll K H vs ds) (e : Ex H H') : DpAll K H' vs ds := dpAll_ext e ds vs h
theorem DpAll.len {H : Hp} : ∀ {vs : List V} {ds : List PyData}, DpAll K H vs ds → vs.length = ds.length
  | _, _, .nil => rfl
  | _, _, .cons _ t => congrArg (· + 1) (DpAll.len t)
theorem DpAll.app {H : Hp} : ∀ {vs ws : List V} {ds es : List PyData}, DpAll K H vs ds → DpAll K H ws es → DpAll K H (vs ++ ws) (ds ++ es)
  | _, _, _, _, .nil, h => h
  | _, _, _, _, .cons a t, h => .cons a (DpAll.app t h)
theorem DpAll.get {H : Hp} : ∀ {vs : List V} {ds : List PyData} {i : Nat} {v : V}, DpAll K H vs ds → vs[i]? = some v → ∃ d, ds[i]? = some d ∧ Dp K H v d
  | _, _, i, _, .nil, e => by simp at e
  | _, _, 0, _, .cons a t, e => by simp at e; subst e; exact ⟨_, rfl, a⟩
  | _, _, i + 1, _, .cons a t, e => by
    obtain ⟨d, h1, h2⟩ := DpAll.get (i := i) t (by simpa using e)
    exact ⟨d, by simpa using h1, h2⟩
theorem DpAll.getD {H : Hp} {vs : List V} {ds : List PyData} {i : Nat} {d : PyData} (h : DpAll K H vs ds) (e : ds[i]? = some d) : ∃ v, vs[i]? = some v ∧ Dp K H v d := by
  have hi : i < ds.length := (List.getElem?_eq_some_iff.mp e).1
  have hv : i < vs.length := by rw [h.len]; exact hi
  obtain ⟨d', h1, h2⟩ := h.get (List.getElem?_eq_getElem hv)
  rw [e] at h1
  cases h1
  exact ⟨_, List.getElem?_eq_getElem hv, h2⟩
end
end L2
namespace LB
open PySem PySem.Spec PyProof.Rows L2
section
variable {K : PySem.W.Frag}
/-- whole numbers as they stand in lists -/
theorem dpAll_ints {H : Hp} : ∀ ns : List Int, DpAll K H (ns.map V.int) (ns.map PyData.int)
  | [] => .nil
  | n :: ns => .cons (.int n) (dpAll_ints ns)
end
section
variable {K : PySem.W.Frag} {H : Hp}
/-- a tuple stands apart from the lists that change -/
theorem sqt_out {S : List Addr} {c : Addr} {xs : List V} (h : SqT K H c xs) (hS : ∀ a ∈ S, ∃ ys, H a = some (.lst ys)) : SqT K (cut S H) c xs := by
  rcases h with (h | ⟨o, h⟩) | h
  · refine Or.inl (Or.inl ?_)
    rw [cut_out (fun m => ?_)]
    · exact h
    · obtain ⟨ys, e⟩ := hS c m
      rw [h] at e
      cases e
  · refine Or.inl (Or.inr ⟨o, ?_⟩)
    rw [cut_out (fun m => ?_)]
    · exact h
    · obtain ⟨ys, e⟩ := hS c m
      rw [h] at e
      cases e
  · exact Or.inr h
end
/-! ### tuples joined, cut -/
section
open Evl
variable {K : PySem.W.Frag} {H : Hp} {Q : VK}
theorem cat_ok {a b : Addr} {xs ys : List V} (S1 : SqT K H a xs) (S2 : SqT K H b ys) (hz : xs.length + ys.length ≤ 100000) (q : ∀ c H', Ex H H' → (∀ p, H' p = none → H p = none) → SqT K H' c (xs ++ ys) → Q (.ref c) H') : rCatA K (.ref a) (.ref b) H Q := by
  refine ⟨a, b, xs, ys, rfl, rfl, S1, S2, sz_of hz, fun e => ?_, fun _ e => ?_, fun _ _ p hp => ?_⟩
  · subst e
    exact q b H (Ex.refl H) (fun _ h => h) S2
  · subst e
    exact q a H (Ex.refl H) (fun _ h => h) (by rw [List.append_nil]; exact S1)
  · exact q p _ (Ex.new hp) (fun x hx => fresh_back (Ex.new hp) hx) (Or.inl (Or.inl upd_same))
theorem cutV_all {xs : List V} {lo hi : Option Int} (h : HT.sIx xs.length 0 lo = 0 ∧ HT.sIx xs.length xs.length hi = xs.length) : cutV xs lo hi = xs := by
  unfold cutV
  rw [h.1, h.2, List.drop_zero, Nat.sub_zero, List.take_length]
theorem sl_ok {a : Addr} {xs : List V} {lo hi : Option Int} (S : SqT K H a xs) (q : ∀ c H', Ex H H' → (∀ p, H' p = none → H p = none) → SqT K H' c (cutV xs lo hi) → Q (.ref c) H') : rSlA K (.ref a) lo hi H Q := by
  refine ⟨a, xs, rfl, S, fun e => ?_, fun _ p hp => ?_⟩
  · exact q a H (Ex.refl H) (fun _ h => h) (by rw [cutV_all e]; exact S)
  · exact q p _ (Ex.new hp) (fun x hx => fresh_back (Ex.new hp) hx) (Or.inl (Or.inl upd_same))
theorem cutV_to {xs : List V} {n : Nat} : cutV xs none (some (n : Int)) = xs.take n := by
  unfold cutV
  rw [HT.sIx_none, HT.sIx_nat, List.drop_zero, Nat.sub_zero]
  by_cases h : n ≤ xs.length
  · rw [Nat.min_eq_left h]
  · rw [Nat.min_eq_right (by omega), List.take_length, List.take_of_length_le (by omega)]
theorem cutV_from {xs : List V} {n : Nat} : cutV xs (some (n : Int)) none = xs.drop n := by
  unfold cutV
  rw [HT.sIx_none, HT.sIx_nat]
  by_cases h : n ≤ xs.length
  · rw [Nat.min_eq_left h, List.take_of_length_le (by rw [List.length_drop]; exact Nat.le_refl _)]
  · rw [Nat.min_eq_right (by omega), List.drop_of_length_le (Nat.le_refl _), List.drop_of_length_le (by omega)]
    exact List.take_nil
/-- a row of tuples, each by its contents -/
def TupAll (K : PySem.W.Frag) (H : Hp) : List V → List (List V) → Prop := Paired fun v ys => ∃ t, v = .ref t ∧ SqT K H t ys
theorem TupAll.len {vs : List V} {ys : List (List V)} (h : TupAll K H vs ys) : vs.length = ys.length := Paired.length h
theorem TupAll.up {H' : Hp} {vs : List V} {ys : List (List V)} (h : TupAll K H vs ys) (e : Ex H H') : TupAll K H' vs ys := Paired.mapP h fun v y ⟨t, h1, h2⟩ => ⟨t, h1, ex_t e h2⟩
theorem TupAll.app : ∀ {vs ws : List V} {ys zs : List (List V)}, TupAll K H vs ys → TupAll K H ws zs → TupAll K H (vs ++ ws) (ys ++ zs)
  | _, _, _, _, .nil, h => h
  | _, _, _, _, .cons a t, h => .cons a (TupAll.app t h)
theorem TupAll.get : ∀ {vs : List V} {ys : List (List V)} {i : Nat} {v : V}, TupAll K H vs ys → vs[i]? = some v → ∃ t y, v = .ref t ∧ ys[i]? = some y ∧ SqT K H t y
  | _, _, _, _, .nil, e => by simp at e
  | _, _, 0, _, .cons ⟨t, h1, h2⟩ _, e => by
    simp at e
    subst e
    exact ⟨t, _, h1, rfl, h2⟩
  | _, _, i + 1, _, .cons _ r, e => by
    obtain ⟨t, y, h1, h2, h3⟩ := TupAll.get (i := i) r (by simpa using e)
    exact ⟨t, y, h1, by simpa using h2, h3⟩
end
/-- all lots of some things -/
def lots {α : Type} (xs : List α) : List (List α) := xs.foldl (fun f x => f ++ f.map (· ++ [x])) [[]]
theorem lots_snoc {α : Type} (xs : List α) (x : α) : lots (xs ++ [x]) = lots xs ++ (lots xs).map (· ++ [x]) := by
  unfold lots
  rw [List.foldl_append]
  rfl
theorem lots_len {α : Type} (xs : List α) : (lots xs).length = 2 ^ xs.length := by
  have : ∀ n (l : List α), l.length = n → (lots l).length = 2 ^ n := by
    intro n
    induction n with
    | zero =>
      intro l h
      rw [List.length_eq_zero_iff.mp h]
      rfl
    | succ n ih =>
      intro l h
      have hne : l ≠ [] := fun e => by rw [e] at h; cases h
      have e := List.dropLast_concat_getLast hne
      rw [← e, lots_snoc, List.length_append, List.length_map, ih l.dropLast (by rw [List.length_dropLast]; omega), Nat.pow_succ]
      omega
  exact this _ xs rfl
theorem lots_size {α : Type} {xs : List α} : ∀ l ∈ lots xs, l.length ≤ xs.length := by
  have : ∀ n (l : List α), l.length = n → ∀ y ∈ lots l, y.length ≤ n := by
    intro n
    induction n with
    | zero =>
      intro l h y hy
      rw [List.length_eq_zero_iff.mp h] at hy
      have : y = [] := by simpa [lots] using hy
      rw [this]
      exact Nat.le_refl 0
    | succ n ih =>
      intro l h y hy
      have hne : l ≠ [] := fun e => by rw [e] at h; cases h
      have e := List.dropLast_concat_getLast hne
      rw [← e, lots_snoc] at hy
      rcases List.mem_append.mp hy with m | m
      · exact Nat.le_succ_of_le (ih _ (by rw [List.length_dropLast]; omega) y m)
      · obtain ⟨z, hz, rfl⟩ := List.mem_map.mp m
        have := ih _ (by rw [List.length_dropLast]; omega) z hz
        rw [List.length_append]
        show z.length + 1 ≤ n + 1
        omega
  exact this _ xs rfl
end LB
end
section
set_option Elab.async false
set_option linter.all false
set_option maxRecDepth 100000
set_option maxHeartbeats 4000000
/-! isinstance of data; own exceptions over Refused -/
namespace LB
open PySem PySem.Spec PyProof.Rows L2 Evl
/-! ### isinstance of data -/
def tyN : PyData → String
  | .none => "NoneType"
  | .bool _ => "bool"
  | .int _ => "int"
  | .str _ => "str"
  | .list _ => "list"
  | .tuple _ => "tuple"
  | .dict _ => "dict"
def isInt : PyData → Bool
  | .int _ => true
  | .bool _ => true
  | _ => false
def isBool : PyData → Bool
  | .bool _ => true
  | _ => false
def isStr : PyData → Bool
  | .str _ => true
  | _ => false
def isTup : PyData → Bool
  | .tuple _ => true
  | _ => false
def isLst : PyData → Bool
  | .list _ => true
  | _ => false
section
variable {K : PySem.W.Frag} {H : Hp} {v : V} {d : PyData} {Q : VK}
theorem dp_ty (h : Dp K H v d) : TyX K H v (.type (tyN d)) := by
  cases h with
  | non => exact .base .non
  | bl b => exact .base (.bl b)
  | int i => exact .base (.int i)
  | str x => exact .base (.str x)
  | lst hs _ =>
    rcases hs with (h | ⟨o, h⟩) | ⟨o, its, n, h, c, _⟩
    · exact .base (.lst h)
    · exact .base (.frz h)
    · exact .kList h c
  | tup hs _ =>
    rcases hs with (h | ⟨o, h⟩) | ⟨o, its, n, h, c, _⟩
    · exact .base (.tup h)
    · exact .fTuple h
    · exact .kTuple h c
theorem kit6 {T : String} {f : PyData → Bool} (hf : (∀ b, f (.bool b) = f (.bool true)) ∧ (∀ i, f (.int i) = f (.int 0)) ∧ (∀ x, f (.str x) = f (.str Str.empty)) ∧ (∀ x, f (.list x) = f (.list [])) ∧ (∀ x, f (.tuple x) = f (.tuple [])))
    (h0 : kitB "NoneType" T = some (f .none)) (h1 : kitB "bool" T = some (f (.bool true))) (h2 : kitB "int" T = some (f (.int 0))) (h3 : kitB "str" T = some (f (.str Str.empty))) (h4 : kitB "list" T = some (f (.list []))) (h5 : kitB "tuple" T = some (f (.tuple [])))
    (h : Dp K H v d) : PySem.W.kitOne K (.type (tyN d)) (.type T) = some (f d) := by
  obtain ⟨f1, f2, f3, f4, f5⟩ := hf
  cases h with
  | non => exact kit_ty h0
  | bl b => rw [f1]; exact kit_ty h1
  | int i => rw [f2]; exact kit_ty h2
  | str x => rw [f3]; exact kit_ty h3
  | lst _ _ => rw [f4]; exact kit_ty h4
  | tup _ _ => rw [f5]; exact kit_ty h5
theorem kit_int (h : Dp K H v d) : PySem.W.kitOne K (.type (tyN d)) (.type "int") = some (isInt d) :=
  kit6 (f := isInt) ⟨fun _ => rfl, fun _ => rfl, fun _ => rfl, fun _ => rfl, fun _ => rfl⟩ (by decide +kernel) (by decide +kernel) (by decide +kernel) (by decide +kernel) (by decide +kernel) (by decide +kernel) h
theorem kit_bool (h : Dp K H v d) : PySem.W.kitOne K (.type (tyN d)) (.type "bool") = some (isBool d) :=
  kit6 (f := isBool) ⟨fun _ => rfl, fun _ => rfl, fun _ => rfl, fun _ => rfl, fun _ => rfl⟩ (by decide +kernel) (by decide +kernel) (by decide +kernel) (by decide +kernel) (by decide +kernel) (by decide +kernel) h
theorem kit_str (h : Dp K H v d) : PySem.W.kitOne K (.type (tyN d)) (.type "str") = some (isStr d) :=
  kit6 (f := isStr) ⟨fun _ => rfl, fun _ => rfl, fun _ => rfl, fun _ => rfl, fun _ => rfl⟩ (by decide +kernel) (by decide +kernel) (by decide +kernel) (by decide +kernel) (by decide +kernel) (by decide +kernel) h
theorem kit_tup (h : Dp K H v d) : PySem.W.kitOne K (.type (tyN d)) (.type "tuple") = some (isTup d) :=
  kit6 (f := isTup) ⟨fun _ => rfl, fun _ => rfl, fun _ => rfl, fun _ => rfl, fun _ => rfl⟩ (by decide +kernel) (by decide +kernel) (by decide +kernel) (by decide +kernel) (by decide +kernel) (by decide +kernel) h
theorem kit_lst (h : Dp K H v d) : PySem.W.kitOne K (.type (tyN d)) (.type "list") = some (isLst d) :=
  kit6 (f := isLst) ⟨fun _ => rfl, fun _ => rfl, fun _ => rfl, fun _ => rfl, fun _ => rfl⟩ (by decide +kernel) (by decide +kernel) (by decide +kernel) (by decide +kernel) (by decide +kernel) (by decide +kernel) h
theorem kit_dict (h : Dp K H v d) : PySem.W.kitOne K (.type (tyN d)) (.type "dict") = some false :=
  kit6 (f := (fun _ => false)) ⟨fun _ => rfl, fun _ => rfl, fun _ => rfl, fun _ => rfl, fun _ => rfl⟩ (by decide +kernel) (by decide +kernel) (by decide +kernel) (by decide +kernel) (by decide +kernel) (by decide +kernel) h
end
/-! ### Refused and what stands under it -/
/-- what the written part says of an exception class under Refused, which has __init__(self, what) at fI -/
structure XCl (K : PySem.W.Frag) (mg : Str → Option Value) (x : Str) (C fI : Addr) : Prop where
  gC : mg x = some (.ref C)
  ox : OexC K C
  iC : PySem.W.findIn K (.ref C) "__init__" = some (some (.ref fI))
  no : PySem.W.findIn K (.ref C) "what" = some none
/-- .. where it is caught -/
structure XCt (K : PySem.W.Frag) (C : Addr) : Prop where
  xf : XfC K C
  ec : ExcC K C
/-- the text of Refused.__init__ -/
structure RefI (K : PySem.W.Frag) (mg : Str → Option Value) (st : Stmt) (fI : Addr) : Prop where
  fn : ∃ fd, L2.Fun K "__init__" "Refused.__init__" st fI fd ∧ L2.Binds K fd ["self", "what"] []
  ty : PySem.W.typeIn K (.ref fI) = some (.type "function")
  m_VE : mg "ValueError" = none
  ve : PySem.W.findCls K (.type "ValueError") (.type "type") "__init__" = some (.val (.builtin "ValueError.__init__"))
def spRef (K : PySem.W.Frag) : Sp := fun vs H Q _ => ∃ (a C : Addr) (v : V), vs = [.ref a, v] ∧ OexC K C ∧ PySem.W.findIn K (.ref C) "what" = some none ∧ H a = some (exo a C none) ∧
  ∀ dx, H dx = none → dx ≠ a → Q .non (upd (upd H dx (exd dx [("what", v)])) a (exo a C (some dx)))
/-- __init__ may be called -/
structure InitOk (P : Program) (w : World) (K : PySem.W.Frag) (mg : Str → Option Value) (base : Heap) (fI : Addr) : Prop where
  ex : ∃ fd, FnOk P w K mg base CX0 1 fI fd ["self", "what"] (spRef K) ∧ L2.Binds K fd ["self", "what"] []
  ty : PySem.W.typeIn K (.ref fI) = some (.type "function")
theorem del_put {H : Hp} {a dx : Addr} {o o2 : HO} {fs : List (Str × V)} (ha : H a = none) (ne : dx ≠ a) : upd (del (upd (upd (upd H a o) dx (exd dx fs)) a o2) a) dx (.xd fs) = upd H dx (.xd fs) := by
  funext b
  by_cases h : b = dx
  · rw [h, upd_same, upd_same]
  · rw [upd_ne h, upd_ne h]
    by_cases g : b = a
    · rw [g, del_same, ha]
    · rw [del_ne g, upd_ne g, upd_ne h, upd_ne g]
section
variable {X : Cx} {x : Str} {C fI : Addr} {p pos pos2 : Pos} {e : Expr} {te : TE} {j : Nat}
/-- raise C(e) in a def that lets the exception out -/
def tRaiseX (K : PySem.W.Frag) (C : Addr) (E : XK) (te : TE) : TS := fun _ σ H => tMkO C (spRef K) [] (tCons te tNil) σ H fun cls d H' => E cls d H'
theorem ps_raiseX {E : XK} (hc : X.calm = true) (tk : Takes X (fun cls d _ H => E cls d H)) (c : XCl X.K X.mg x C fI) (i : InitOk X.prog X.w X.K X.mg X.base fI) (hr : Room j X.A) (hj : 2 ≤ j) (hg : Gl X x) (he : PE X e te)
    (hdb : (x == ("__debug__" : Str)) = false := by decide) (hs : starEach (e :: []) X.env = (false, eval e X.env) :: starEach [] X.env := by rfl) (hpl : (backTo pos (starEach [] X.env)).any (·.1) = false := by rfl) :
    PS X (.Raise (some (.Call (.Name x p) [e] [] pos)) none pos2) (tRaiseX X.K C E te) := by
  obtain ⟨fd, F, b⟩ := i.ex
  exact ps_raise (pos := pos2) hc tk (pmk_oex (p := p) (pos := pos) c.ox c.iC i.ty F (hr.mono hj) b .nil pass0 hg c.gC (pa_cons he pa_nil hs) hdb hs hpl)
/-- what it asks behind its argument -/
theorem mk_ref {K : PySem.W.Frag} {mg : Str → Option Value} {E : XK} {v : V} {H : Hp} (c : XCl K mg x C fI) (h : ∀ d, H d = none → E (.ref C) (some d) (upd H d (.xd [("what", v)]))) :
    [v].length ≤ 1000 ∧ ∀ a, H a = none → spRef K (.ref a :: ([v] ++ [])) (upd H a (exo a C none))
      (fun u H2 => u = .non ∧ ∃ (d : Addr) (fs : List (Str × V)), H2 a = some (exo a C (some d)) ∧ H2 d = some (exd d fs) ∧ H d = none ∧ E (.ref C) (some d) (upd (del H2 a) d (.xd fs))) (fun _ _ _ => False) := by
  refine ⟨(by decide : 1 ≤ 1000), fun a ha => ⟨a, C, v, rfl, c.ox, c.no, upd_same, fun dx hd ne => ⟨rfl, dx, [("what", v)], upd_same, by rw [upd_ne ne, upd_same], ?_, ?_⟩⟩⟩
  · rw [upd_ne ne] at hd
    exact hd
  · rw [del_put ha ne]
    rw [upd_ne ne] at hd
    exact h dx hd
end
section
variable {P : Program} {w : World} {K : PySem.W.Frag} {mg : Str → Option Value} {base : Heap}
theorem init_ok {st : Stmt} {fI : Addr} (R : RefI K mg st fI) (S : FnScope ["self", "what"] ["self", "what"] (defScope st))
    (hb : ∀ (f : Addr) (cdv : Value) (A : Around) (outer : List Env) (s : Shared) (H : Hp) (E : XK), PSs (cxOf CX0 P w K mg base ["self", "what"] "Refused.__init__" (defScope st) f cdv A outer s H E).nox (defBody st)
      (tSeq (tDrop (tVeI K (tCons (tVar 0) (tCons (tVar 1) tNil)))) (tOst K "what" (tVar 0) (tVar 1)))) : InitOk P w K mg base fI := by
  obtain ⟨fd, F, b⟩ := R.fn
  refine ⟨⟨fd, F.ok S (fun vs H Q E h => ?_) (fun cdv A outer s H vs Q E hr h => ⟨_, hb fI cdv A outer s H E, ?_⟩), b⟩, R.ty⟩
  · obtain ⟨a, C, v, rfl, _⟩ := h
    rfl
  · obtain ⟨a, C, v, rfl, ox, no, ha, q⟩ := h
    exact ⟨_, rfl, _, rfl, a, C, [v], rfl, (by decide : 1 ≤ 1000), ox, ha, _, rfl, _, rfl, a, C, rfl, ox, no, Or.inl ⟨ha, q⟩⟩
end
end LB
end
section
set_option Elab.async false
set_option linter.all false
set_option maxRecDepth 100000
set_option maxHeartbeats 4000000
/-! a caught exception that has a dict of its own: isinstance, its fields; a callee that stands in a variable and may raise -/
namespace LB
open PySem PySem.Spec PyProof.Rows L2
/-- isinstance(e, c) of the caught e -/
def rIsX (K : PySem.W.Frag) (cls : Value) (d : Option Addr) (a : Addr) : List V → Hp → VK → Prop := fun xs H Q => ∃ (D : Addr) (c : V) (cv : Value) (b : Bool) (dd : Addr) (fs : List (Str × V)), cls = .ref D ∧ ExcC K D ∧ xs = [.ref a, c] ∧ (∀ u, RelV c u → u = cv) ∧ PySem.W.kitOne K (.ref D) cv = some b ∧
  d = some dd ∧ H dd = some (.xd fs) ∧ Q (.bl b) H
theorem call_isX {X : Cx} {a : Addr} {cls : Value} {d : Option Addr} {oe : Obj} {pn : List (Addr × Obj)} (hz : Zc cls d oe) (hf : ∃ vs, oe.data = .fields vs) : CallR (X.suite a ((a, oe) :: pn)) (.builtin "isinstance") (rIsX X.K cls d a) := by
  intro pins s σ H xs us Q I r h
  obtain ⟨D, c, cv, b, dd, fs, rfl, C, rfl, hcv, e, rfl, ea, q⟩ := h
  cases r with
  | cons rx rr =>
    cases rr with
    | cons rt rr =>
      cases rr
      cases rx
      have ec := hcv _ rt
      subst ec
      obtain ⟨hget, _⟩ := I.pin (a, oe) (List.mem_append.mpr (.inl List.mem_cons_self))
      obtain ⟨vs, hv⟩ := hf
      have hx : ObjOk X.prog X.w H s.heap dd (.xd fs) := I.hok dd _ ea
      obtain ⟨mA, hns, hr⟩ := hx
      obtain ⟨od, ho, hl⟩ := lookIn_ns hns
      have J : PySem.W.InstAt s.heap a oe D (some od) := ⟨hget, hz.1, by unfold PySem.W.notCls; rw [hv] <;> rfl, by rw [hz.2]; exact ho⟩
      have hcl : (PySem.W.clsIn X.K D).isSome = true := by
        obtain ⟨cd, hc, _⟩ := PySem.W.any_some C.hd
        rw [hc]
        rfl
      exact PySem.W.kia_one (PySem.W.kitx_exc hcl C.hg C.hk C.hs C.ha C.hn C.ht C.hm) I.kIn J e (fun z => nomatch z) fun tk => ⟨.bl b, H, I.kept (t' := tk) fun _ _ z => z, rfl, q⟩
/-- e.f of the caught e, whatever its class -/
def tXfX (K : PySem.W.Frag) (a : Addr) (cls : Value) (d : Option Addr) (f : Str) (te : TE) : TE := fun σ H Q => ∃ C : Addr, XfC K C ∧ PySem.W.findIn K (.ref C) f = some none ∧ tXf a cls d C f te σ H Q
theorem pe_xfX {X : Cx} {a : Addr} {oe : Obj} {cls : Value} {d : Option Addr} {pn : List (Addr × Obj)} {e : Expr} {te : TE} {pos : Pos} {n : Str} (hz : Zc cls d oe) (hf : ∃ vs, oe.data = .fields vs) (he : PE (X.suite a ((a, oe) :: pn)) e te)
    (hb : attributeBase e n X.env (eval e X.env) = eval e X.env := by rfl) : PE (X.suite a ((a, oe) :: pn)) (.Attribute e n pos) (tXfX X.K a cls d n te) := by
  constructor
  intro pins s σ H Q I h
  obtain ⟨C, T, hno, h⟩ := h
  exact (pe_xf T hno hz hf he hb).run pins s σ H Q I h
/-- as many slots as names -/
theorem pss_guard {X : Cx} {b : List Stmt} {t : TS} {n : Nat} (h : PSs X b t) (hn : X.N.length = n := by rfl) : PSs X b (fun D σ H => σ.length = n → t D σ H) := by
  constructor
  intro pins s σ H D I q
  exact h.run pins s σ H D I (q (by rw [I.len]; exact hn))
/-- a def that may raise, by its address -/
structure CalXAt (P : Program) (w : World) (K : PySem.W.Frag) (mg : Str → Option Value) (base : Heap) (k : Nat) (f : Addr) (sp : Sp) : Prop where
  ex : ∃ (fd : FuncData) (ps : List Str), FnOk P w K mg base (L2.CX P w) k f fd ps sp ∧ PySem.W.keepIn K (.ref f) = true ∧ Binds K fd ps []
theorem calX_at {P : Program} {w : World} {K : PySem.W.Frag} {mg : Str → Option Value} {base : Heap} {k : Nat} {x : Str} {f : Addr} {sp : Sp} (c : CalX P w K mg base k x sp) (hm : mg x = some (.ref f)) : CalXAt P w K mg base k f sp := by
  obtain ⟨f', fd, ps, F, h, kp, b⟩ := c.ex
  rw [hm] at h
  cases h
  exact ⟨fd, ps, F, kp, b⟩
/-- v(..), v one of two defs that may raise -/
def tCallVX (i : Nat) (f1 f2 : Addr) (sp1 sp2 : Sp) (E : XK) (t : TA) : TE := fun σ H Q => (σ[i]? = some (some (.ref f1)) ∧ t σ H fun vs H1 => sp1 vs H1 Q E) ∨ (σ[i]? = some (some (.ref f2)) ∧ t σ H fun vs H1 => sp2 vs H1 Q E)
theorem pe_cvX {X : Cx} {i j k1 k2 : Nat} {f1 f2 : Addr} {sp1 sp2 : Sp} {x : Str} {e : Expr} {es : List Expr} {t : TA} {p pos : Pos} {E : XK} (tk : Takes X (fun cls d _ H => E cls d H)) (c1 : CalXAt X.prog X.w X.K X.mg X.base k1 f1 sp1) (c2 : CalXAt X.prog X.w X.K X.mg X.base k2 f2 sp2)
    (hr : Room j X.A) (hk1 : k1 ≤ j) (hk2 : k2 ≤ j) (hN : X.N[i]? = some x) (hv : Vis X.env.scope x) (ha : PA X (e :: es) t)
    (hd : (x == ("__debug__" : Str)) = false := by decide) (hcd : (x == ("__classdict__" : Str)) = false := by decide)
    (he : starEach (e :: es) X.env = (false, eval e X.env) :: starEach es X.env := by rfl) (hpl : (backTo pos (starEach es X.env)).any (·.1) = false := by rfl) :
    PE X (.Call (.Name x p) (e :: es) [] pos) (tCallVX i f1 f2 sp1 sp2 E t) := by
  constructor
  intro pins s σ H Q I h
  have go : ∀ {k : Nat} {f : Addr} {sp : Sp}, CalXAt X.prog X.w X.K X.mg X.base k f sp → k ≤ j → σ[i]? = some (some (.ref f)) → (t σ H fun vs H1 => sp vs H1 Q E) → wpAny (model X.prog X.w) X.A (eval (.Call (.Name x p) (e :: es) [] pos) X.env) (EP X pins σ Q) X.xe s := fun {k f sp} c hk hs ht => by
    obtain ⟨fd, ps, F, kp, b⟩ := c.ex
    refine wpAny_Call_Name_kw (thn ((pe_var (pos := p) hN hv hd hcd).run pins s σ H (fun v H1 => v = .ref f ∧ H1 = H) I ⟨.ref f, hs, rfl, rfl⟩) fun u s1 ⟨v, H1, I1, r1, q1⟩ => ?_)
    obtain ⟨rfl, rfl⟩ := q1
    cases r1
    refine PySem.W.callWith_K (h₀ := X.base) I.ok.mod.kin kp (thn (ha.run pos pins s1 σ _ _ I1 ht) fun us s2 ⟨vs, H2, I2, r, q⟩ => ⟨I2.kIn, ?_⟩) he hpl
    exact run_fn F (hr.mono hk) b .nil (passes_call tk fun _ _ _ _ h => h) I2 r (by rw [List.append_nil]; exact q)
  rcases h with ⟨h1, h2⟩ | ⟨h1, h2⟩
  · exact go c1 hk1 h1 h2
  · exact go c2 hk2 h1 h2
end LB
end
section
set_option Elab.async false
set_option linter.all false
set_option maxRecDepth 100000
set_option maxHeartbeats 4000000
/-! a lambda of one parameter, called; sorted(xs, key=lambda x: ..) -/
namespace LB
open PySem PySem.Spec PyProof.Rows L2 Evl LamX
/-- one parameter x, no other name of its own -/
structure LamP (sc scope : Scope) (x : Str) : Prop where
  kind : scope.kind = .function
  co : scope.isCoroutine = false
  gen : scope.isGenerator = false
  own : ∀ y ∈ scope.names, y.2 ≠ .cell ∧ (y.2 = .local → y.1 = x)
  par : scope.names.lookup x = some .local
  free : ∀ y ∈ scope.names, y.2 = .free → sc.names.lookup y.1 = some .cell ∨ sc.names.lookup y.1 = some .free
def lamPB (sc scope : Scope) (x : Str) : Bool :=
  decide (scope.kind = .function) && (!scope.isCoroutine && (!scope.isGenerator && (decide (scope.names.lookup x = some .local) && scope.names.all fun y => !decide (y.2 = .cell) && ((!decide (y.2 = .local) || decide (y.1 = x)) && (!decide (y.2 = .free) || (decide (sc.names.lookup y.1 = some .cell) || decide (sc.names.lookup y.1 = some .free)))))))
theorem lamP_by {sc scope : Scope} {x : Str} (h : lamPB sc scope x = true) : LamP sc scope x := by
  unfold lamPB at h
  simp only [Bool.and_eq_true, Bool.or_eq_true, Bool.not_eq_true', decide_eq_true_eq, decide_eq_false_iff_not, List.all_eq_true] at h
  obtain ⟨h1, h2, h3, h4, h5⟩ := h
  refine ⟨h1, h2, h3, fun y hy => ⟨(h5 y hy).1, fun e => ?_⟩, h4, fun y hy e => ?_⟩
  · rcases (h5 y hy).2.1 with z | z
    · exact absurd e z
    · exact z
  · rcases (h5 y hy).2.2 with z | z
    · exact absurd e z
    · exact z
/-- the context of the lambda's body; it lets no exception out -/
abbrev lamC (X : Cx) (A : Around) (s : Shared) (H : Hp) (scope : Scope) (f c' : Addr) : Cx where
  prog := X.prog
  w := X.w
  K := X.K
  mg := X.mg
  base := X.base
  A := A.deeper (lamEnv X scope s.heap.objs.size f c')
  N := X.N
  s_0 := s
  H_0 := H
  env := lamEnv X scope s.heap.objs.size f c'
  outer := X.stack
  stack := lamEnv X scope s.heap.objs.size f c' :: X.stack
  ex := []
  fn := fun _ => false
  calm := true
  pn := []
  xe := fun _ _ => False
section
variable {X : Cx} {pins : List (Addr × Obj)} {σ : L2.St} {H : Hp} {s : Shared}
theorem lamC_start {A : Around} {scope : Scope} {f c' : Addr} {h₁ : Heap} {tk i : Nat} {x : Str} {v : V} {u : Value} (I : Inv X pins σ H s) (L : LamP X.env.scope scope x) (e0 : Env0 X.prog X.w X.K X.mg X.base A X.stack s H) (hd : A.handled = none)
    (hN : X.N.Nodup) (hi : X.N[i]? = some x) (rv : RelV v u) (hns : h₁.Ns s.heap.objs.size fun y => [(x, u)].reverse.lookup y) (kp : ∀ b o, s.heap.get? b = some o → h₁.get? b = some o) :
    Inv (lamC X A s H scope f c') [] (σ.set i (some v)) H { s with heap := h₁, toks := tk } := by
  have hfree : ∀ y ∈ scope.names, y.2 = .free → ∃ c, X.env.cells.lookup y.1 = some c := fun y hy e => (L.free y hy e).elim (fun k => I.ok.has _ (.inl k)) (fun k => I.ok.has _ (.inr k))
  have cm : ∀ {y : Str} {c : Addr}, (cloFrom X.env.cells scope.names []).lookup y = some c → X.env.cells.lookup y = some c := fun {y c} e => by
    rcases cloFrom_mem (PySem.mem_of_lookup e) with hm | ⟨q1, q2⟩
    · cases hm
    · obtain ⟨c1, hc⟩ := hfree _ q1 rfl
      have hc' : X.env.cells.lookup y = some c1 := hc
      rw [q2, hc']
      rfl
  have look : ∀ {y : Str}, scope.names.lookup y = some .free → ∃ c, (cloFrom X.env.cells scope.names []).lookup y = some c := fun {y} hl => mem_lookup (cloFrom_has (cells := X.env.cells) (acc := []) (PySem.mem_of_lookup hl))
  have cellK : ∀ {c : Addr} {w' : Option Value}, s.heap.IsCell c w' → h₁.IsCell c w' := fun {c w'} ⟨o, ho, hd⟩ => ⟨o, kp _ _ ho, hd⟩
  have iσ : i < σ.length := by rw [I.len]; exact (List.getElem?_eq_some_iff.mp hi).1
  constructor
  · constructor
    · exact e0.mod
    · exact L.kind
    · rfl
    · rfl
    · exact Nat.le_refl _
    · exact fun y z c e1 e2 => I.ok.inj y z c (cm e1) (cm e2)
    · intro y hy
      rcases (show scope.names.lookup y = some .cell ∨ scope.names.lookup y = some .free from hy) with k | k
      · exact absurd rfl (L.own _ (PySem.mem_of_lookup k)).1
      · exact look k
    · intro y c z _
      cases (show false = true from z)
    · exact fun _ => hd
    · exact Around.frames_deeper e0.frames
    · exact .inr ⟨rfl, rfl⟩
    · exact fun b z => nomatch (show b ∈ ([] : List Addr) from z)
    · exact e0.bs
    · exact e0.bsz
    · exact fun b _ _ z => nomatch (show b ∈ ([] : List Addr) from z)
    · exact fun b z => nomatch (show b ∈ ([] : List Addr) from z)
    · exact e0.funs
    · exact e0.frf
  · rfl
  · exact e0.bare
  · exact Un.kept kp
  · refine ⟨_, hns, fun j y z e1 e2 e3 => ?_⟩
    have e3' : Vis scope y := e3
    rcases e3' with k | k | k
    · have ey : y = x := (L.own _ (PySem.mem_of_lookup k)).2 rfl
      subst ey
      have ej : j = i := nodup_ix hN e1 hi
      subst ej
      rw [List.getElem?_set_self iσ] at e2
      cases e2
      refine ⟨u, rv, .inl ⟨k, ?_⟩⟩
      show [(y, u)].reverse.lookup y = some u
      simp [List.lookup]
    · exact absurd rfl (L.own _ (PySem.mem_of_lookup k)).1
    · have nx : j ≠ i := fun z' => by
        subst z'
        rw [hi] at e1
        cases e1
        rw [L.par] at k
        cases k
      rw [List.getElem?_set_ne (Ne.symm nx)] at e2
      obtain ⟨m, hn, hl⟩ := I.loc
      have hvis : Vis X.env.scope y := (L.free _ (PySem.mem_of_lookup k) rfl).elim (fun k => .inr (.inl k)) (fun k => .inr (.inr k))
      obtain ⟨w', r, q⟩ := hl j y z e1 e2 hvis
      obtain ⟨c2, h2⟩ := look k
      have c1 := cm h2
      refine ⟨w', r, .inr ⟨.inr k, c2, h2, ?_⟩⟩
      rcases q with ⟨k', _⟩ | ⟨_, c3, e', z3⟩
      · have k2 : X.env.scope.names.lookup y = some .local := k'
        rcases L.free _ (PySem.mem_of_lookup k) rfl with k3 | k3
        · rw [show X.env.scope.names.lookup y = _ from k3] at k2
          cases k2
        · rw [show X.env.scope.names.lookup y = _ from k3] at k2
          cases k2
      · rw [c1] at e'
        cases e'
        exact cellK z3
  · intro y c e
    obtain ⟨w', z⟩ := I.cell y c (cm e)
    exact ⟨w', cellK z⟩
  · exact e0.hok.fresh (Nat.le_refl _)
  · exact fun y c e => I.freeC y c (cm e)
  · intro q hq
    exact nomatch (show q ∈ ([] : List (Addr × Obj)) from hq)
  · exact e0.hok.kept kp
  · rw [List.length_set]
    exact I.len
/-- a lambda of one parameter is called -/
theorem lam_call {A : Around} {k i : Nat} {x : Str} {f c' : Addr} {params : Arguments} {body : Expr} {scope : Scope} {pm ctv : Value} {tb : TE} {v : V} {u : Value} {Q : VK} {E : Value → Shared → Prop} (I : Inv X pins σ H s) (L : LamP X.env.scope scope x)
    (hN : X.N.Nodup) (hi : X.N[i]? = some x) (hf : s.heap.get? f = some (PySem.W.kla_obj "<lambda>" (X.env.qual ++ "<lambda>") params body scope (cloFrom X.env.cells scope.names []) pm c' ctv)) (hc : H c' = some (CodeO c' (X.env.qual ++ "<lambda>")))
    (e0 : Env0 X.prog X.w X.K X.mg X.base A X.stack s H) (hr : Room (k + 1) A) (rv : RelV v u)
    (hbind : bindArgs (PySem.W.kla_fn "<lambda>" (X.env.qual ++ "<lambda>") params body scope (cloFrom X.env.cells scope.names []) pm (.ref c') ctv) ⟨[u], []⟩ = pure [(x, u)])
    (hbody : Room k (A.deeper (lamEnv X scope s.heap.objs.size f c')) → PE (lamC X A s H scope f c') body tb) (h : tb (σ.set i (some v)) H Q) : wpAny (model X.prog X.w) A (call (.ref f) [u]) (EP X pins σ Q) E s := by
  obtain ⟨⟨oc, vs, t, hoc, hdc, hvc⟩, _, _⟩ := I.hok c' _ hc
  have rc : codeAny (model X.prog X.w) A (.call (.ref f) ⟨[u], []⟩) (CR (fun _ _ _ _ _ _ => False) X.stack X.prog X.w H s Q (fun _ _ _ => False)) s := by
    refine PySem.W.kla_callFunE hr.depth hf rfl L.co L.gen rfl ⟨c', oc, vs, t, rfl, hoc, hdc, hvc⟩ ?_
    rw [hbind]
    refine wpAny_pure (wpAny_newFunctionEnv (fun y hy => (L.own y hy).1) (fun y hy => ?_) (fun h₁ hns hsb => ⟨I.nolimit.fresh _ hsb, ?_⟩) L.kind)
    · rw [List.mem_singleton.mp hy]
      exact L.par
    · show codeAny _ _ (.expr body (lamEnv X scope s.heap.objs.size f c')) _ _
      have kp : ∀ b o, s.heap.get? b = some o → h₁.get? b = some o := fun b o e => hsb.extBut b o (Nat.ne_of_lt (Heap.lt_size e)) (Heap.get?_push_of_some _ e)
      have J := lamC_start (f := f) (c' := c') (tk := s.toks + [(x, u)].length) I L e0 hr.hd hN hi rv hns kp
      refine PySem.W.kla_codeExpr (wpAny_mono ((hbody (hr.deeper _)).run [] _ _ H Q J h) (fun z s' hq => ?_) fun e s' hq => hq.elim)
      obtain ⟨w', H', J', rz, q⟩ := hq
      exact ⟨w', H', J'.os, J'.bare, J'.base, J'.hok, rz, q⟩
  refine wpAny_call (codeAny_mono rc fun r s' hq => ?_)
  cases r with
  | error e => exact False.elim hq
  | ok fl =>
    cases fl with
    | ret u => exact I.after hq
    | next => exact False.elim hq
    | brk => exact False.elim hq
    | cont => exact False.elim hq
/-! ### the sort itself -/
/-- an object that is new since s may be pinned -/
theorem pin_new {s2 : Shared} {H2 : Hp} {a : Addr} {o : Obj} (I : Inv X pins σ H s) (hl : s.heap.objs.size ≤ a) (I2 : HOk X.prog X.w H2 s2.heap) (e : s2.heap.get? a = some o) (hn : H2 a = none) (hd : ∀ v, o.data ≠ .cell v) :
    s2.heap.get? a = some o ∧ H2 a = none ∧ a ≠ X.env.locals ∧ a ∉ X.fs ∧ ∀ v, o.data ≠ .cell v :=
  ⟨e, hn, fun z => Nat.lt_irrefl _ (Nat.lt_of_lt_of_le (by rw [z]; exact I.lt) hl), I.nofs hl, hd⟩
/-- what is sorted: the items by their keys, stably -/
def byKey (items : List V) (kz : List PyData) : List V := ((items.zip kz).mergeSort (PySem.W.dataLe false Prod.snd)).map Prod.fst
theorem each_items : ∀ {items : List V} {vs : List Value} {kz : List PyData}, Vals items vs → kz.length = items.length → PySem.W.EachIs (fun (u : Value) (b : V × PyData) => RelV b.1 u) vs (items.zip kz)
  | _, _, [], .nil, _ => .nil
  | _, _, k :: kz, .nil, h => by cases h
  | _, _, [], .cons r t, h => by cases h
  | _, _, k :: kz, .cons r t, h => .cons r (each_items t (by simpa using h))
theorem vals_each : ∀ {vs : List Value} {bs : List (V × PyData)}, PySem.W.EachIs (fun (u : Value) (b : V × PyData) => RelV b.1 u) vs bs → Vals (bs.map Prod.fst) vs
  | _, _, .nil => .nil
  | _, _, .cons h t => .cons h (vals_each t)
theorem zip_snd {items : List V} {kz : List PyData} (h : kz.length = items.length) : (items.zip kz).map Prod.snd = kz := by
  rw [List.map_snd_zip (by omega)]
theorem each_dp (I : Inv X pins σ H s) : ∀ {kvs : List V} {us : List Value} {ks : List PyData}, Vals kvs us → DpAll X.K H kvs ks → PySem.W.EachIs (fun v k => ∃ as, Reads s.heap v k as) us ks
  | _, _, _, .nil, h => by cases h; exact .nil
  | _, _, _, .cons r t, h => by
    cases h with
    | cons h1 h2 => exact .cons (Dp.reads I _ _ _ h1 r) (each_dp I t h2)
theorem vals_snoc {xs : List V} {us : List Value} {x : V} {u : Value} (h : Vals xs us) (r : RelV x u) : Vals (xs ++ [x]) (us ++ [u]) := Vals.append h (.cons r .nil)
theorem sorted_keyI {a : Addr} {items : List V} {kz : List PyData} {f : Addr} {Q : VK} {E : Value → Shared → Prop} (I : Inv X pins σ H s) (hs : SqL X.K H a items) (hlen : kz.length = items.length) (hal : PySem.W.AllAlike kz) (hsk : PySem.W.Sortable kz)
    (hu : ∀ d ∈ kz, X.A.units + 2 + d.depth < cLine)
    (turn : ∀ (i : Nat) (v : V) (d : PyData) (u : Value), items[i]? = some v → kz[i]? = some d → RelV v u → ∀ (pins' : List (Addr × Obj)) (H' : Hp) (s' : Shared), (∀ p ∈ pins, p ∈ pins') → Inv X pins' σ H' s' → Ex H H' →
      wpAny (model X.prog X.w) X.A.in1.in1 (call (.ref f) [u]) (EP X pins' σ fun kv H2 => Ex H' H2 ∧ Dp X.K H2 kv d) (fun _ _ => False) s')
    (h : ∀ (p : Addr) (H' : Hp), Ex H H' → H p = none → H' p = none → Q (.ref p) (upd H' p (.lst (byKey items kz)))) :
    wpAny (model X.prog X.w) X.A (call (.builtin "sorted") [.ref a] [(Str.ofString "key", .ref f)]) (EP X pins σ Q) E s := by
  obtain ⟨vs, rv, hl, hz⟩ := I.list hs
  have hvl : vs.length = items.length := rv.length.symm
  have hZ : vs.length ≤ sizeLine := by omega
  refine PySem.W.sorted_of_sort hl.isList hZ (ksk_s1 _ _) (fun _ => ksk_l1 _ _) fun E' => ?_
  rw [ksk_t1]
  -- the copy, emptied; the held tuple; the keys' list
  have up0 : ∀ b o, s.heap.get? b = some o → (PySem.W.copyHeap s.heap vs).get? b = some o := fun b o e => PySem.W.copyHeap_old e
  have hcopy := PySem.W.copyHeap_at s.heap vs
  generalize hch : PySem.W.copyHeap s.heap vs = ch at up0 hcopy ⊢
  obtain ⟨e1, ho1⟩ : ∃ e1, (ch.update (s.heap.objs.size + 1) (Obj.mapSeq fun _ => (#[] : Array Value))).get? (s.heap.objs.size + 1) = some (seqObj "list" #[] e1) := ⟨_, get?_update_seq hcopy fun _ => #[]⟩
  have hcs : s.heap.objs.size + 1 < ch.objs.size := Heap.lt_size hcopy
  unfold ksk_tree
  refine wpAny_bind (listItems_at hcopy rfl ?_)
  refine wpAny_bind (listUpdate_at hcopy rfl ?_ (by rw [List.size_toArray]; exact hZ) (Nat.zero_le _))
  refine wpAny_bind (seqEpoch_at ho1 rfl ?_)
  refine wpAny_bind (wpAny_newTuple ?_ (by show vs.length ≤ _; exact hZ))
  refine wpAny_bind (wpAny_newList ?_ (Nat.zero_le _))
  refine wpAny_holding ?_
  generalize hg : ch.update (s.heap.objs.size + 1) (Obj.mapSeq fun _ => (#[] : Array Value)) = g at ho1 ⊢
  have up1 : ∀ b o, s.heap.get? b = some o → g.get? b = some o := fun b o e => by
    rw [← hg, Heap.get?_update_ne _ _ _ _ (Nat.ne_of_lt (Nat.lt_succ_of_lt (Heap.lt_size e)))]
    exact up0 b o e
  have gs : g.objs.size = ch.objs.size := by rw [← hg, Heap.size_update]
  have kS0 : ((g.push { cls := .type "tuple", data := .seq vs.toArray }).push { cls := .type "list", data := .seq #[] }).get? (g.push { cls := .type "tuple", data := .seq vs.toArray }).objs.size = some { cls := .type "list", data := .seq #[] } := Heap.get?_push_size _ rfl
  have a0 : ((g.push { cls := .type "tuple", data := .seq vs.toArray }).push { cls := .type "list", data := .seq #[] }).get? (s.heap.objs.size + 1) = some (seqObj "list" #[] e1) := Heap.get?_push_of_some _ (Heap.get?_push_of_some _ ho1)
  have kSz : s.heap.objs.size + 1 < (g.push { cls := .type "tuple", data := .seq vs.toArray }).objs.size := by
    have : (g.push { cls := .type "tuple", data := .seq vs.toArray }).objs.size = g.objs.size + 1 := by rw [Heap.size_push]
    omega
  generalize hkS : (g.push { cls := .type "tuple", data := .seq vs.toArray }).objs.size = kS at kS0 kSz
  have keep0 : ∀ b o, s.heap.get? b = some o → ((g.push { cls := .type "tuple", data := .seq vs.toArray }).push { cls := .type "list", data := .seq #[] }).get? b = some o := fun b o e => Heap.get?_push_of_some _ (Heap.get?_push_of_some _ (up1 b o e))
  generalize hh0 : (g.push { cls := .type "tuple", data := .seq vs.toArray }).push { cls := .type "list", data := .seq #[] } = h0 at kS0 a0 keep0 ⊢
  have I0 : Inv X pins σ H { s with heap := h0 } := I.kept (t' := s.toks) keep0
  have nA : H (s.heap.objs.size + 1) = none := I.hok.fresh (Nat.le_succ _)
  have nK : H kS = none := I.hok.fresh (by omega)
  have cellD : ∀ v : Value, (seqObj "list" (#[] : Array Value) e1).data ≠ .cell v := fun v z => by cases z
  have seqD : ∀ (xs : Array Value) (n : Nat) (v : Option Value), (seqObj "list" xs n).data ≠ .cell v := fun xs n v z => by cases z
  have hpins : ∀ {H2 : Hp} {s2 : Shared} {pp : List (Addr × Obj)}, Inv X pp σ H2 s2 → (∀ p ∈ pins, p ∈ pp) → ∀ p ∈ pins, s2.heap.get? p.1 = some p.2 ∧ H2 p.1 = none ∧ p.1 ≠ X.env.locals ∧ p.1 ∉ X.fs ∧ ∀ v, p.2.data ≠ .cell v := fun J hp p hm => J.pin p (List.mem_append_right _ (hp p hm))
  have kSne : kS ≠ s.heap.objs.size + 1 := by omega
  have kSlt : s.heap.objs.size ≤ kS := by omega
  have kSX : X.s_0.heap.objs.size ≤ kS := Nat.le_trans I.sz kSlt
  have aX : X.s_0.heap.objs.size ≤ s.heap.objs.size + 1 := Nat.le_trans I.sz (Nat.le_succ _)
  have cellNe : ∀ {b : Addr}, s.heap.objs.size ≤ b → ∀ x c, X.env.cells.lookup x = some c → c ≠ b := fun {b} hb x c e z => by
    obtain ⟨v, o, ho, _⟩ := I.cell x c e
    rw [z] at ho
    exact Nat.lt_irrefl _ (Nat.lt_of_lt_of_le (Heap.lt_size ho) hb)
  have pinNe : ∀ {b : Addr}, s.heap.objs.size ≤ b → ∀ p ∈ X.pn ++ pins, p.1 ≠ b := fun {b} hb p hp z => by
    obtain ⟨ho, _⟩ := I.pin p hp
    rw [z] at ho
    exact Nat.lt_irrefl _ (Nat.lt_of_lt_of_le (Heap.lt_size ho) hb)
  have locNe : ∀ {b : Addr}, s.heap.objs.size ≤ b → b ≠ X.env.locals := fun {b} hb z => Nat.lt_irrefl _ (Nat.lt_of_lt_of_le (by rw [z]; exact I.lt) hb)
  unfold ksk_rest
  refine wpAny_bind (wpAny_rule ?_)
  rw [List.forIn_toArray]
  refine wpAny_bind (ksk_fold (fun i s' => ∃ (H' : Hp) (kA : Array Value) (n : Nat) (kvs : List V), Inv X ((s.heap.objs.size + 1, seqObj "list" #[] e1) :: pins) σ H' s' ∧ Ex H H' ∧ s'.heap.get? kS = some (seqObj "list" kA n) ∧ H' kS = none ∧ Vals kvs kA.toList ∧ DpAll X.K H' kvs (kz.take i)) vs 0 _ ?start ?step ?done)
  case start =>
    refine ⟨H, #[], 0, [], I0.pins_of fun p hp => ?_, Ex.refl H, kS0, nK, .nil, by rw [List.take_zero]; exact .nil⟩
    rcases List.mem_cons.mp hp with e | e
    · subst e
      exact ⟨a0, nA, locNe (Nat.le_succ _), I.nofs (Nat.le_succ _), fun v => seqD _ _ v⟩
    · exact I0.pin p (List.mem_append_right _ e)
  case step =>
    rintro j x s' hx ⟨H', kA, n, kvs, J, e, nk, nkH, hv, hd⟩
    simp only [Nat.zero_add] at hd ⊢
    have hj : j < vs.length := (List.getElem?_eq_some_iff.mp hx).1
    obtain ⟨y, hy⟩ : ∃ y, items[j]? = some y := ⟨_, List.getElem?_eq_getElem (by omega)⟩
    obtain ⟨d, hdj⟩ : ∃ d, kz[j]? = some d := ⟨_, List.getElem?_eq_getElem (by omega)⟩
    obtain ⟨u, hu1, ry⟩ := Vals.get rv hy
    rw [hx] at hu1
    cases hu1
    have hlenK : kA.size = j := by
      have h1 := hv.length
      have h2 := hd.len
      rw [List.length_take] at h2
      have el : kA.toList.length = kA.size := by simp
      omega
    have J2 : Inv X ((kS, seqObj "list" kA n) :: (s.heap.objs.size + 1, seqObj "list" #[] e1) :: pins) σ H' s' := J.pins_of fun p hp => by
      rcases List.mem_cons.mp hp with z | z
      · subst z
        exact ⟨nk, nkH, locNe kSlt, I.nofs kSlt, fun v => seqD _ _ v⟩
      · exact J.pin p (List.mem_append_right _ z)
    refine wpAny_bind (wpAny_attempt (wpAny_mono (turn j y d x hy hdj ry _ H' s' (fun p hp => List.mem_cons_of_mem _ (List.mem_cons_of_mem _ hp)) J2 e) (fun u s2 he => ?_) fun _ _ hF => hF.elim))
    obtain ⟨kv, H2, J3, rk, e3, dk⟩ := he
    try dsimp only
    obtain ⟨nk2, nkH2, _⟩ := J3.pin (kS, seqObj "list" kA n) (List.mem_append_right _ List.mem_cons_self)
    have sb := Heap.SameBut.update s2.heap kS (Obj.mapSeq (·.push u))
    obtain ⟨c2, hc2⟩ : ∃ c2, (s2.heap.update kS (Obj.mapSeq (·.push u))).get? kS = some (seqObj "list" (kA.push u) c2) := ⟨_, get?_update_seq nk2 (·.push u)⟩
    refine wpAny_bind (listUpdate_at nk2 rfl ?_ (by omega) (by rw [Array.size_push]; omega))
    have J4 : Inv X ((s.heap.objs.size + 1, seqObj "list" #[] e1) :: pins) σ H2 s2 := J3.pins_of fun p hp => J3.pin p (List.mem_append_right _ (List.mem_cons_of_mem _ hp))
    have J5 : Inv X ((s.heap.objs.size + 1, seqObj "list" #[] e1) :: pins) σ H2 { s2 with heap := s2.heap.update kS (Obj.mapSeq (·.push u)) } := J4.turned (t' := s2.toks) (it := kS) (fun b o hb q => (sb.2 b hb).trans q) nkH2 (locNe kSlt) (.inr kSX) (cellNe kSlt) fun p hp => by
      rcases List.mem_append.mp hp with z | z
      · exact pinNe kSlt p (List.mem_append_left _ z)
      · rcases List.mem_cons.mp z with z | z
        · subst z
          exact fun q => kSne q.symm
        · exact pinNe kSlt p (List.mem_append_right _ z)
    refine wpAny_pure ⟨rfl, H2, kA.push u, c2, kvs ++ [kv], J5, e.trans e3, hc2, nkH2, ?_, ?_⟩
    · rw [show (kA.push u).toList = kA.toList ++ [u] by simp]
      exact vals_snoc hv rk
    · rw [List.take_add_one, hdj]
      exact (hd.up e3).app (.cons dk .nil)
  case done =>
    rintro s' ⟨H', kA, n, kvs, J, e, nk, nkH, hv, hd⟩
    rw [show kz.take (0 + vs.length) = kz from List.take_of_length_le (by omega)] at hd
    have hk' := each_dp J hv hd
    have hsz : kA.size = vs.length := by
      have h1 := hv.length
      have h2 := hd.len
      have el : kA.toList.length = kA.size := by simp
      omega
    obtain ⟨na, naH, _⟩ := J.pin (s.heap.objs.size + 1, seqObj "list" #[] e1) (List.mem_append_right _ List.mem_cons_self)
    obtain ⟨G, g1, g2⟩ := restrict s'.heap fun b => decide (b ≠ kS)
    have gk : ∀ b, b ≠ kS → G.get? b = s'.heap.get? b := fun b hb => g1 b (decide_eq_true hb)
    have gn : G.get? kS = none := g2 kS (by simp)
    have kp : PySem.W.KeepsBut (s.heap.objs.size + 1) G s'.heap := fun b o hb q => by
      by_cases z : b = kS
      · rw [z, gn] at q
        cases q
      · rw [← gk b z]
        exact q
    try dsimp only
    refine wpAny_bind (listItems_at nk rfl ?_)
    refine PySem.W.keyH_end (κ := PySem.W.dataKind s'.heap kz) (h₁ := G) kp gn nk na kSne (PySem.W.SortsAt.data (s := s') hk' hal hsk hu) hsz hZ fun h3 tk3 c k3 n3 => ⟨rfl, ?_⟩
    have out : PySem.W.EachIs (fun (u : Value) (b : V × PyData) => RelV b.1 u) (PySem.W.sortVals (PySem.W.dataKind s'.heap kz) false kA.toList vs) ((items.zip kz).mergeSort (PySem.W.dataLe false Prod.snd)) := by
      refine PySem.W.keyedOut_each (R := fun (u : Value) (b : V × PyData) => RelV b.1 u) Prod.snd ?_ (each_items rv hlen)
      rw [zip_snd hlen]
      exact ⟨s'.heap, kA.toList, hal, rfl, hk'⟩
    have vout : Vals (byKey items kz) (PySem.W.sortVals (PySem.W.dataKind s'.heap kz) false kA.toList vs) := vals_each out
    have keep : ∀ b o, b ≠ s.heap.objs.size + 1 → b ≠ kS → s'.heap.get? b = some o → h3.get? b = some o := fun b o h1 h2 q => k3 b o h1 (by rw [gk b h2]; exact q)
    have trk : ∀ b o, H' b = some o → b ≠ s.heap.objs.size + 1 ∧ b ≠ kS := fun b o q => ⟨ne_of_none q naH, ne_of_none q nkH⟩
    have J' : Inv X pins σ H' s' := J.pins_of fun p hp => J.pin p (List.mem_append_right _ (List.mem_cons_of_mem _ hp))
    refine ⟨.ref (s.heap.objs.size + 1), upd H' (s.heap.objs.size + 1) (.lst (byKey items kz)), ?_, rfl, h _ H' e nA naH⟩
    refine J'.step (g' := s'.gens) (d' := s'.drawn) (t' := tk3) (h' := h3) (ch := [s.heap.objs.size + 1, kS]) (fun b hb => ?_) (fun b o _ _ hc q _ => ?_) (fun b o _ _ hc q _ => ?_) (fun b o hc q nb => ?_) (fun b o hc q => ?_) (fun b xs q => ?_) (fun b o v q => ?_) (fun b ps q => ?_) (fun m hm => ?_) (fun b o q => ?_) J'.bare
    · rcases List.mem_cons.mp hb with z | z
      · rw [z]
        exact ⟨.inr aX, locNe (Nat.le_succ _), cellNe (Nat.le_succ _), pinNe (Nat.le_succ _)⟩
      · rw [List.mem_singleton.mp z]
        exact ⟨.inr kSX, locNe kSlt, cellNe kSlt, pinNe kSlt⟩
    · exact keep b o (fun z => hc (by rw [z]; exact List.mem_cons_self)) (fun z => hc (by rw [z]; exact List.mem_cons_of_mem _ List.mem_cons_self)) q
    · exact ⟨o.slots, keep b o (fun z => hc (by rw [z]; exact List.mem_cons_self)) (fun z => hc (by rw [z]; exact List.mem_cons_of_mem _ List.mem_cons_self)) q⟩
    · rw [upd_ne (fun z => hc (by rw [z]; exact List.mem_cons_self))]
      exact nb
    · exact ⟨o, keep b o (fun z => hc (by rw [z]; exact List.mem_cons_self)) (fun z => hc (by rw [z]; exact List.mem_cons_of_mem _ List.mem_cons_self)) q⟩
    · rw [upd_ne (trk b _ q).1]
      exact q
    · rw [upd_ne (trk b _ q).1]
      exact q
    · exact ⟨#[], by rw [upd_ne (trk b _ q).1, q]; simp⟩
    · obtain ⟨o, es, ep, ho, r⟩ := hm
      exact ⟨o, es, ep, keep _ o (locNe (Nat.le_succ _)).symm (locNe kSlt).symm ho, r⟩
    · by_cases z : b = s.heap.objs.size + 1
      · subst z
        rw [upd_same] at q
        cases q
        refine ⟨?_, _, c, vout, n3⟩
        rw [vout.length, PySem.W.sortVals_length false (by rw [Array.length_toList]; exact hsz)]
        exact hZ
      · rw [upd_ne z] at q
        refine (J'.hok b o q).stay (fun b2 v hc2 r => ?_) (fun b2 r => by rw [upd_ne (trk b2 _ r).1]; exact r) fun b2 xs r => by rw [upd_ne (trk b2 _ r).1]; exact r
        rcases hc2 with rfl | hc2
        · exact keep _ v (trk _ _ q).1 (trk _ _ q).2 r
        · exact keep _ v (trk _ _ hc2).1 (trk _ _ hc2).2 r
/-! ### sorted(e, key=lambda x: body) -/
theorem extN_l {K : PySem.W.Frag} {H H' : Hp} {a : Addr} {xs : List V} (e : ExtN H H') (h : SqL K H a xs) : SqL K H' a xs := by
  rcases h with (h | ⟨o, h⟩) | h
  · exact Or.inl (Or.inl (e _ _ h fun ps z => by cases z))
  · exact Or.inl (Or.inr ⟨o, e _ _ h fun ps z => by cases z⟩)
  · exact Or.inr h
theorem extN_t {K : PySem.W.Frag} {H H' : Hp} {a : Addr} {xs : List V} (e : ExtN H H') (h : SqT K H a xs) : SqT K H' a xs := by
  rcases h with (h | ⟨o, h⟩) | h
  · exact Or.inl (Or.inl (e _ _ h fun ps z => by cases z))
  · exact Or.inl (Or.inr ⟨o, e _ _ h fun ps z => by cases z⟩)
  · exact Or.inr h
def tSortKey (K : PySem.W.Frag) (T : List (Addr × Str)) (i : Nat) (tb te : TE) : TE := fun σ H Q => te σ H fun x H1 => Tabs T H1 ∧ ∃ (a : Addr) (items : List V) (kz : List PyData), x = .ref a ∧ SqL K H1 a items ∧ kz.length = items.length ∧ PySem.W.AllAlike kz ∧ PySem.W.Sortable kz ∧ (∀ d ∈ kz, d.depth ≤ 8) ∧
  (∀ (j : Nat) (v : V) (d : PyData), items[j]? = some v → kz[j]? = some d → ∀ H2, ExtN H1 H2 → tb (σ.set i (some v)) H2 fun kv H3 => Ex H2 H3 ∧ Dp K H3 kv d) ∧
  ∀ (p : Addr) (H2 : Hp), ExtN H1 H2 → Tabs T H2 → H2 p = none → Q (.ref p) (upd H2 p (.lst (byKey items kz)))
theorem pe_sortKey {T : List (Addr × Str)} {e : Expr} {te tb : TE} {params : Arguments} {body : Expr} {scope : Scope} {lpos kpos p pos : Pos} {x : Str} {i k : Nat} {c P : Addr} (hg : Gl X "sorted") (hm : X.mg "sorted" = none) (he : PE X e te) (L : LamP X.env.scope scope x) (hN : X.N.Nodup) (hi : X.N[i]? = some x)
    (TB : TabB X.base X.mg c P) (hcode : X.env.code = .ref c) (hmT : (P, X.env.qual ++ "<lambda>") ∈ T) (hu : ∀ p ∈ T, p.1 = P → p.2 = X.env.qual ++ "<lambda>") (hr : Room (k + 3) X.A) (hdef : defaultsOf params X.env = ([], []))
    (hbind : ∀ (q : Str) (cl : List (Str × Addr)) (pm cv ctv u : Value), bindArgs (PySem.W.kla_fn "<lambda>" q params body scope cl pm cv ctv) ⟨[u], []⟩ = pure [(x, u)])
    (hbody : ∀ (A : Around) (s : Shared) (H : Hp) (f c' : Addr), Room k (A.deeper (lamEnv X scope s.heap.objs.size f c')) → PE (lamC X A s H scope f c') body tb)
    (hs : starEach (e :: []) X.env = (false, eval e X.env) :: starEach [] X.env := by rfl) :
    PE X (.Call (.Name "sorted" p) [e] [⟨some "key", .Lambda params body scope lpos, kpos⟩] pos) (tSortKey X.K T i tb te) := by
  constructor
  intro pins s σ H Q I h
  refine wpAny_Call_Name_kw (ld_blt (u := .builtin "sorted") I hg hm (by decide +kernel) ?_ (by decide) (by decide))
  have hb : backTo pos (starEach (e :: []) X.env) = (false, eval e X.env) :: backTo pos (starEach [] X.env) := by
    rw [hs]
    rfl
  refine PyProof.Rows.callWith_kw ?_ hb (by rw [hb]; rfl) (by rfl) (by rfl)
  rw [hb]
  refine Calls.spliced_cons (thn (he.run pins s σ H _ I h) fun v s1 hh => ?_)
  obtain ⟨x1, H1, I1, r1, hT, a, items, kz, rfl, hsq, hlen, hal, hsk, hdep, hturn, hq⟩ := hh
  obtain rfl : v = Value.ref a := r1
  refine Calls.spliced_nil ?_
  refine wpAny_evalAll_cons (wpAny_bind (lam_make2 I1 TB hcode hmT hu hT hdef (fun y hy e => (L.free y hy e).elim (fun k => I1.ok.has _ (.inl k)) (fun k => I1.ok.has _ (.inr k))) fun f c' pm' ctv H2 s2 I2 eN T2 hf hfn hfr hco => wpAny_bind (wpAny_standAt (wpAny_pure (wpAny_evalAll_nil ?_)))))
  have nfs : f ∉ X.fs := fun z => by
    rcases I2.ok.stk with e | ⟨e, _⟩
    · exact hfr (by rw [e]; exact z)
    · refine hfr ?_
      rw [e]
      unfold frs
      rw [List.filterMap_cons]
      split
      · exact z
      · exact List.mem_cons_of_mem _ z
  have nL : f ≠ X.env.locals := fun z => by
    obtain ⟨m, ⟨o, es, ep, ho, hd, _⟩, _⟩ := I2.loc
    rw [← z, hf] at ho
    cases ho
    cases hd
  have I3 : Inv X ((f, PySem.W.kla_obj "<lambda>" (X.env.qual ++ "<lambda>") params body scope (cloFrom X.env.cells scope.names []) pm' c' ctv) :: pins) σ H2 s2 := I2.pins_of fun p hp => by
    rcases List.mem_cons.mp hp with z | z
    · subst z
      exact ⟨hf, hfn, nL, nfs, fun v z => by cases z⟩
    · exact I2.pin p (List.mem_append_right _ z)
  have hcall : wpAny (model X.prog X.w) X.A (call (.builtin "sorted") [.ref a] [(Str.ofString "key", .ref f)]) (EP X ((f, PySem.W.kla_obj "<lambda>" (X.env.qual ++ "<lambda>") params body scope (cloFrom X.env.cells scope.names []) pm' c' ctv) :: pins) σ Q) X.xe s2 := by
    refine sorted_keyI (kz := kz) I3 (extN_l eN hsq) hlen hal hsk (fun d hd => ?_) (fun j v d u hv hd rv pins' H' s' hp J e => ?_) fun p H' e _ hp => hq p H' (eN.trans (ExtN.of e)) (T2.ext e) hp
    · have := hr.un
      have := hdep d hd
      omega
    · obtain ⟨hf', _⟩ := J.pin _ (List.mem_append_right _ (hp _ List.mem_cons_self))
      exact lam_call (A := X.A.in1.in1) J L hN hi hf' (e _ _ hco) J.env0.in1.in1 hr.in1.in1 rv (hbind _ _ _ _ _ _) (fun _ => hbody _ s' H' f c' (by assumption)) (hturn j v d hv hd H' (eN.trans (ExtN.of e)))
  exact thn hcall fun u s3 ⟨v, H3, I4, rv, q⟩ => ⟨v, H3, I4.pins_of fun p hp => I4.pin p (List.mem_append_right _ (List.mem_cons_of_mem _ hp)), rv, q⟩
end
end LB
end
section
set_option Elab.async false
set_option linter.all false
set_option maxRecDepth 100000
set_option maxHeartbeats 4000000
/-! tuples turned about; dicts with tuples as keys: dict(rows), update, setdefault -/
namespace LB
open PySem PySem.Spec PyProof.Rows L2 HT
section
variable {prog : Program} {w : World} {A : Around} {E : Value → Shared → Prop} {s : Shared}
theorem turned_adjust (n : Nat) : Builtin.Slice.sliceAdjust none none (-1) (n : Int) = ((n : Int) - 1, -1) := by
  unfold Builtin.Slice.sliceAdjust
  simp
theorem turned_places (n : Nat) : Builtin.Slice.slicePlaces ((n : Int) - 1) (-1) (-1) = n := by
  unfold Builtin.Slice.slicePlaces
  have h1 : ¬ ((-1 : Int) > 0) := by decide
  simp only [h1, if_false]
  by_cases h : (n : Int) - 1 > -1
  · simp only [h, if_true]
    rw [show (- -1 : Int) = 1 by decide, Int.ediv_one]
    omega
  · have e : n = 0 := by omega
    subst e
    simp
theorem turned_applied {sl : Addr} {vs : Value} {n : Nat} {Q : Int × Int × Nat → Shared → Prop} (hs : s.heap.IsSliceOf sl .none .none vs) (pv : IsPart vs (some (-1)))
    (h : Q ((n : Int) - 1, -1, n) s) : wpAny (model prog w) A (Builtin.Slice.sliceApplied (.ref sl) (pure (n : Int))) Q E s := by
  obtain ⟨os, hos, hcs, hds⟩ := id hs
  unfold Builtin.Slice.sliceApplied Builtin.Slice.sliceFields
  refine wpAny_bind (wpAny_bind (wpAny_field hos hds (x := .none) rfl (wpAny_bind (wpAny_field hos hds (x := .none) rfl (wpAny_bind (wpAny_field hos hds (x := vs) rfl (wpAny_pure ?_)))))))
  refine wpAny_bind (slicePart_ pv ?_)
  show wpAny _ _ (if ((-1 : Int) == 0) = true then _ else _) _ _ s
  rw [if_neg (by decide)]
  refine wpAny_bind (slicePart_none (wpAny_bind (slicePart_none (wpAny_bind (wpAny_pure ?_)))))
  show wpAny _ _ (match Builtin.Slice.sliceAdjust none none (-1) (n : Int) with | (lo, hi) => pure (lo, (-1 : Int), Builtin.Slice.slicePlaces lo hi (-1))) _ _ s
  rw [turned_adjust]
  show wpAny _ _ (pure ((n : Int) - 1, (-1 : Int), Builtin.Slice.slicePlaces ((n : Int) - 1) (-1) (-1))) _ _ s
  rw [turned_places]
  exact wpAny_pure h
theorem turned_pick (xs : Array Value) : ((List.range xs.size).filterMap fun (m : Nat) => xs[((xs.size : Int) - 1 + (m : Int) * -1).toNat]?) = xs.toList.reverse := by
  rw [← PySem.W.krv_all xs, ← List.filterMap_reverse, ← PySem.W.krv_range, List.filterMap_map]
  have key : ∀ (l : List Nat), (∀ m ∈ l, m < xs.size) → l.filterMap (fun (m : Nat) => xs[((xs.size : Int) - 1 + (m : Int) * -1).toNat]?) = l.filterMap ((fun x => xs[x]?) ∘ fun k => xs.size - 1 - k) := by
    intro l hl
    induction l with
    | nil => rfl
    | cons m l ih =>
      have hm := hl m List.mem_cons_self
      have e : ((xs.size : Int) - 1 + (m : Int) * -1).toNat = xs.size - 1 - m := by omega
      rw [List.filterMap_cons, List.filterMap_cons, ih fun k hk => hl k (List.mem_cons_of_mem _ hk)]
      simp only [Function.comp_apply, e]
  exact key _ fun m hm => List.mem_range.mp hm
theorem getItem_tuple_turned {t sl : Addr} {items : Array Value} {vs : Value} {Q : Value → Shared → Prop} (ht : IsTup s.heap t items) (hs : s.heap.IsSliceOf sl .none .none vs) (pv : IsPart vs (some (-1)))
    (h : Q (.ref s.heap.objs.size) { s with heap := s.heap.push { cls := .type "tuple", data := .seq items.toList.reverse.toArray } }) (hsz : items.size ≤ sizeLine) : wpAny (model prog w) A (getItem (.ref t) (.ref sl)) Q E s := by
  have htake : sizeOk (.seq items.toList.reverse.toArray) := by
    show items.toList.reverse.toArray.size ≤ sizeLine
    rw [List.size_toArray, List.length_reverse, Array.length_toList]
    exact hsz
  obtain ⟨os, hos, hcs, hds⟩ := id hs
  have hTs : s.TypeIs (.ref sl) "slice" := ⟨os, hos, hcs⟩
  unfold getItem
  try with_reducible refine wpAny_holding ?_
  first | refine wpAny_bind (wpAny_pure ?_) | skip
  refine wpAny_bind (wpAny_sequenceKey ht.typeIs (by decide) ?_)
  refine wpAny_bind (wpAny_callSpecial?_slot (name := Str.ofString "__getitem__") ht.typeIs PyProof.Rows.slot_tuple_getitem
    (wpAny_call_entry PyProof.Rows.slot_tuple_getitem ht.typeIs entry_tuple_getitem ?_ (args_tuple_getitem _ _)))
  show wpAny _ _ (Builtin.Tuple.tupleItemsOf (.ref t) >>= _) _ _ s
  refine wpAny_bind (tupleItemsOf_ ht ?_)
  refine wpAny_bind (wpAny_typeOf hTs ?_)
  rw [if_pos (by decide)]
  refine wpAny_bind (turned_applied hs pv ?_)
  have hno : ¬ ((((items.size : Int) - 1) == 0 && (-1 : Int) == 1 && items.size == items.size) = true) := by
    intro q
    rw [Bool.and_eq_true, Bool.and_eq_true] at q
    exact absurd (eq_of_beq q.1.2) (by decide)
  show wpAny _ _ (if (((items.size : Int) - 1) == 0 && (-1 : Int) == 1 && items.size == items.size) = true then _ else _) _ _ s
  rw [if_neg hno, turned_pick]
  first
    | exact wpAny_bind (m := Builtin.Tuple.tupleExact _) (wpAny_newObj_type (wpAny_pure ⟨_, rfl, wpAny_pure h⟩) htake)
    | exact wpAny_bind (m := Builtin.Tuple.tupleExact _) (wpAny_newObj_type (wpAny_bind (wpAny_pure (wpAny_pure ⟨_, rfl, wpAny_pure h⟩))) htake)
    | exact wpAny_bind (wpAny_bind (m := Builtin.Tuple.tupleExact _) (wpAny_newObj_type (wpAny_pure (wpAny_pure ⟨_, rfl, wpAny_pure h⟩)) htake))
    | exact wpAny_bind (wpAny_bind (m := Builtin.Tuple.tupleExact _) (wpAny_newObj_type (wpAny_pure ⟨_, rfl, wpAny_pure h⟩) htake))
end
section
variable {X : Cx}
/-- t[::-1] -/
def tRevT (K : PySem.W.Frag) (te : TE) : TE := fun σ H Q => te σ H fun x H1 => ∃ a xs, x = .ref a ∧ SqT K H1 a xs ∧ ∀ p, H1 p = none → Q (.ref p) (upd H1 p (.tup xs.reverse))
theorem pe_revT {e : Expr} {te : TE} {k : Nat} {p1 p2 p3 pos : Pos} (he : PE X e te) : PE X (.Subscript e (.Slice none none (some (.UnaryOp .USub (.Constant (.int 1) k p1) p2)) p3) pos) (tRevT X.K te) := by
  constructor
  intro pins s σ H Q I h
  refine Subscript_ (thn (he.run pins s σ H _ I h) fun v s1 ⟨x, H1, I1, r1, q1⟩ => ?_)
  obtain ⟨a, xs, ex, hx, q⟩ := q1
  subst ex
  cases r1
  have hst : PO X (some (.UnaryOp .USub (.Constant (.int 1) k p1) p2)) (tPart (tUn (rU fun i => .int (-i)) (tC (.int 1)))) := po_some (pe_un un_neg pe_int)
  refine wpAny_Slice (thn (po_none.run pins s1 σ H1 (fun o H2 => o = none ∧ H2 = H1) I1 ⟨rfl, rfl⟩) fun vl s2 ⟨l, H2, I2, pl, el, e2⟩ => ?_)
  subst el e2
  refine thn (po_none.run pins s2 σ H2 (fun o H3 => o = none ∧ H3 = H2) I2 ⟨rfl, rfl⟩) fun vu s3 ⟨u, H3, I3, pu, eu, e3⟩ => ?_
  subst eu e3
  refine thn (hst.run pins s3 σ H3 (fun o H4 => o = some (-1) ∧ H4 = H3) I3 ⟨1, rfl, -1, rfl, rfl, rfl⟩) fun vs s4 ⟨o, H4, I4, ps, eo, e4⟩ => ?_
  subst eo e4
  cases pl
  cases pu
  have I5 : Inv X pins σ H4 { s4 with heap := s4.heap.push { cls := .type "slice", data := .fields #[.none, .none, vs] } } := I4.kept (t' := s4.toks) fun b ob q => Heap.get?_push_of_some _ q
  obtain ⟨its, r, ht, hz⟩ := I5.tuple hx
  have hlen := r.length
  have hz' : xs.length ≤ sizeLine := by
    first
      | exact hz
      | (rw [List.size_toArray] at hz; omega)
  show wpAny (model X.prog X.w) X.A (subscriptTail e (.Slice none none (some (.UnaryOp .USub (.Constant (.int 1) k p1) p2)) p3) (.ref a) (.ref s4.heap.objs.size)) (EP X pins σ Q) X.xe { s4 with heap := s4.heap.push { cls := .type "slice", data := .fields #[.none, .none, vs] } }
  refine tail_any (ops := [.ref a, .ref s4.heap.objs.size]) ht.typeIs PyProof.Rows.slot_tuple_getitem.lookup ?_ (by with_unfolding_all rfl)
  refine getItem_tuple_turned ht (Heap.IsSliceOf.new _ .none .none vs) ps ?_ (by rw [List.size_toArray]; omega)
  refine ⟨.ref _, _, I5.laid (t' := s4.toks) (o := .tup xs.reverse) (fun b ob q => Heap.get?_push_of_some _ q) (Nat.le_refl _) ?_, rfl, q _ (I5.hok.fresh (Nat.le_refl _))⟩
  exact ⟨by rw [List.length_reverse]; exact hz', _, r.reverse, IsTup.new _ _⟩
end
/-! ### dicts with tuples as keys -/
def mergeT (kvs more : List (List Key × V)) : List (List Key × V) := more.foldl (fun acc kv => putK acc kv.1 kv.2) kvs
theorem kt_merge {H : Hp} : ∀ {more : List (List Key × V)} {ps : List (List Key × Addr × Value)} {kvs : List (List Key × V)} {xs : List (List Key × Addr × Value)}, KT H more ps → KT H kvs xs → KT H (mergeT kvs more) (storedAllH xs ps)
  | _, _, _, _, .nil, r => r
  | _, _, kvs, xs, .cons (a := p) (b := q) h t, r => by
    have e : KT H (putK kvs p.1 p.2) (storedH xs q.1 q.2.1 q.2.2) := by
      have := r.put p.1 h.2.1 h.2.2
      rw [← h.1]
      exact this
    have z := kt_merge t e
    exact z
theorem length_mergeT : ∀ (more kvs : List (List Key × V)), (mergeT kvs more).length ≤ kvs.length + more.length
  | [], kvs => Nat.le_refl _
  | p :: r, kvs => by
    have h1 := length_mergeT r (putK kvs p.1 p.2)
    have h2 := length_putK kvs p.1 p.2
    show (mergeT (putK kvs p.1 p.2) r).length ≤ _
    rw [List.length_cons]
    omega
/-- rows of two: a tuple that is a key, what stands by it -/
def RowsT (K : PySem.W.Frag) (H : Hp) : List Addr → List (List Key × V) → Prop := Paired fun p kv => ∃ b, SqT K H p [.ref b, kv.2] ∧ H b = some (.tup (kv.1.map kV))
theorem RowsT.up {K : PySem.W.Frag} {H H' : Hp} {ps : List Addr} {kvs : List (List Key × V)} (h : RowsT K H ps kvs) (e : Evl.Ex H H') : RowsT K H' ps kvs := Paired.mapP h fun p kv ⟨b, h1, h2⟩ => ⟨b, Evl.ex_t e h1, e _ _ h2⟩
section
variable {X : Cx}
theorem rows_of {pins : List (Addr × Obj)} {σ : L2.St} {H : Hp} {s : Shared} (I : Inv X pins σ H s) : ∀ {ps : List Addr} {kvs : List (List Key × V)}, RowsT X.K H ps kvs →
    ∃ zs : List (List Key × Addr × Value), KT H kvs zs ∧ zs.length = ps.length ∧ ∀ (j : Nat) (z : List Key × Addr × Value), zs[j]? = some z → ∃ b : Addr, ps[j]? = some b ∧ IsTup s.heap b #[.ref z.2.1, z.2.2] ∧ (tupleKind (mixKind X.prog X.w)).is s.heap z.1 z.2.1
  | _, _, .nil => ⟨[], .nil, rfl, fun j q e => by simp at e⟩
  | _, _, .cons (a := p) (b := kv) h t => by
    obtain ⟨zs, r, hl, hp⟩ := rows_of I t
    obtain ⟨b, h1, h2⟩ := h
    obtain ⟨its, rv, ht, _⟩ := I.tuple h1
    obtain ⟨u, y, ei, ru, ry⟩ := vals2 rv
    subst ei
    cases ru
    refine ⟨(kv.1, b, y) :: zs, .cons ⟨rfl, h2, ry⟩ r, by rw [List.length_cons, List.length_cons, hl], fun j q e => ?_⟩
    cases j with
    | zero =>
      have e' : (kv.1, b, y) = q := Option.some.inj e
      subst e'
      exact ⟨p, rfl, ht, key_of I.hok h2⟩
    | succ j =>
      obtain ⟨b', e1, e2, e3⟩ := hp j q (by simpa using e)
      exact ⟨b', by simpa using e1, e2, e3⟩
/-- dict(xs) of a list of rows, the keys tuples -/
theorem call_dictT (hcalm : X.calm = true) (hu : X.A.units + 5 < cLine) : CallR X (.type "dict") (fun xs H Q => ∃ (a : Addr) (ps : List Addr) (kvs : List (List Key × V)), xs = [.ref a] ∧ SqL X.K H a (ps.map V.ref) ∧ RowsT X.K H ps kvs ∧
    ∀ p, H p = none → Q (.ref p) (upd H p (.dT (mergeT [] kvs)))) := by
  intro pins s σ H xs us Q I r q
  obtain ⟨a, ps, kvs, ex, hq, hp, q⟩ := q
  subst ex
  obtain ⟨u, eu, rx⟩ := vals1 r
  subst eu
  cases rx
  obtain ⟨its, rv, pl, hz⟩ := I.list hq
  have ei := refs_at rv
  subst ei
  rw [List.length_map] at hz
  obtain ⟨zs, rel, hl, hpr⟩ := rows_of I hp
  obtain ⟨o, n, ho, hc, hd, hdat⟩ := pl
  have hcn : ((zs.map fun z => (Value.ref z.2.1, z.2.2)).length) = zs.length := List.length_map ..
  have ok : PlainSeq "list" s.heap a (ps.map Value.ref).toArray ∧ PairItems s.heap (ps.map Value.ref).toArray (fun j => (ps[j]?).getD 0) (zs.map fun z => (Value.ref z.2.1, z.2.2)) := by
    refine ⟨⟨o, n, ho, hc, hd, hdat⟩, ?_, fun j k v e => ?_⟩
    · rw [List.size_toArray, List.length_map, List.length_map, hl]
    · rw [List.getElem?_map] at e
      obtain ⟨z, hz1, hz2⟩ := Option.map_eq_some_iff.mp e
      cases hz2
      obtain ⟨b, e1, ⟨o2, ho2, hc2, n2, hd2⟩, e3⟩ := hpr j z hz1
      refine ⟨?_, Or.inl ?_⟩
      · simp [e1]
      · show Heap.IsTuple s.heap ((ps[j]?).getD 0) _
        rw [e1]
        exact ⟨o2, ho2, hc2, n2, hd2⟩
  have hst : KeysStay (tupleKind (mixKind X.prog X.w)) s.heap s.heap.objs.size [] zs := by
    intro h' hk z hzm
    obtain ⟨j, hj⟩ := List.mem_iff_getElem?.mp hzm
    obtain ⟨b, _, _, e3⟩ := hpr j z hj
    exact tupleKind_stays.stays (fun c oc vs m e _ => hk c oc (Nat.ne_of_lt (Heap.lt_size e)) (fun q => nomatch q) e) e3
  refine call_dict_pairsH (knd := tupleKind (mixKind X.prog X.w)) (ps := zs) (PairArg.list a (ps.map Value.ref).toArray (fun j => (ps[j]?).getD 0) (zs.map fun z => (Value.ref z.2.1, z.2.2))) (I.ok.hd hcalm) (show X.A.units + 1 + 1 < cLine by omega) ok ⟨hcn.symm, fun i key v e => ?_⟩ hst (by rw [hcn, hl]; exact hz) fun h' tk hd' hk => ?_
  · have e' : (zs.map fun z => (Value.ref z.2.1, z.2.2))[i]? = some (key, v) := e
    rw [List.getElem?_map] at e'
    obtain ⟨z, hz1, hz2⟩ := Option.map_eq_some_iff.mp e'
    cases hz2
    exact ⟨z.1, z.2.1, hz1, rfl⟩
  · have hm : (s.heap.objs.size == sysModules) = false := beq_eq_false_iff_ne.mpr (Nat.ne_of_gt I.big)
    have hlen : (mergeT [] kvs).length ≤ sizeLine := by
      refine Nat.le_trans (length_mergeT kvs []) ?_
      have := Paired.length rel
      rw [List.length_nil, Nat.zero_add, this, hl]
      exact hz
    have hk' : ∀ b o, s.heap.get? b = some o → h'.get? b = some o := fun b o e => hk b o (fun q => nomatch q) e
    obtain ⟨qo, es, ep, hq1, h2, h3, h4, _, h5⟩ := hd'
    have fr := I.hok.fresh (Nat.le_refl s.heap.objs.size)
    refine ⟨.ref s.heap.objs.size, upd H s.heap.objs.size (.dT (mergeT [] kvs)), I.laid (t' := tk) hk' (Nat.le_refl _) (show ObjOk X.prog X.w _ _ _ (.dT (mergeT [] kvs)) from ⟨hlen, hm, _, (kt_merge rel .nil).keeps fun c ys ec => ?_, qo, es, ep, hq1, h2, h3, h4, h5⟩), rfl, q _ fr⟩
    rw [upd_ne (ne_of_none ec fr)]
    exact ec
/-- d.update(e), both with tuples as keys -/
def tDUpT (P : Program) (w : World) (td te : TE) : TE := fun σ H Q => td σ H fun x H1 => ∃ a, x = .ref a ∧ IsD H1 a ∧ te σ H1 fun y H2 => ∃ (b : Addr) (kvs more : List (List Key × V)), y = .ref b ∧ a ≠ b ∧ H2 a = some (.dT kvs) ∧ H2 b = some (.dT more) ∧
  kvs.length + more.length ≤ sizeLine ∧ (kvs ≠ [] ∨ (more.map fun x => (tupleKind (mixKind P w)).hash x.1).Nodup) ∧ Q .non (upd H2 a (.dT (mergeT kvs more)))
theorem pe_dupT {o e : Expr} {td te : TE} {apos cpos : Pos} (hu : X.A.units + 5 < cLine) (ho : PE X o td) (he : PE X e te) (m : M1 X o "update" apos e cpos) : PE X (.Call (.Attribute o "update" apos) [e] [] cpos) (tDUpT X.prog X.w td te) := by
  constructor
  intro pins s σ H Q I h
  refine wpAny_Call_method m.base m.few m.line PySem.F.plainAttrs_dict PySem.F.slot_dict_update PySem.F.type_dict_update (thn (ho.run pins s σ H _ I h) fun u s1 ⟨x, H1, I1, rx, a, ex, d, q1⟩ => ?_)
  subst ex
  obtain rfl : u = Value.ref a := rx
  obtain ⟨t1, t2, _⟩ := isD_at I1 d
  refine ⟨t1, t2, ?_⟩
  rw [m.trees]
  refine Calls.callWith_builtin rfl (Calls.evalArgs_plain (Calls.spliced_cons (thn (he.run pins s1 σ H1 _ I1 q1) fun iv s2 ⟨y, H2, I2, ry, b, kvs, more, ey, nab, ea, eb, hl, hap, q2⟩ => Calls.spliced_nil ?_)))
  subst ey
  cases ry
  obtain ⟨z1, hd1, xs, rel1, dd1⟩ := dt_of I2.hok ea
  obtain ⟨z2, hd2, ys, rel2, dd2⟩ := dt_of I2.hok eb
  have l1 : kvs.length = xs.length := Paired.length rel1
  have l2 : more.length = ys.length := Paired.length rel2
  have hh : (more.map fun x => (tupleKind (mixKind X.prog X.w)).hash x.1) = ys.map fun x => (tupleKind (mixKind X.prog X.w)).hash x.1 := by
    clear dd2 z2 l2 hap hl q2 eb
    induction rel2 with
    | nil => rfl
    | cons h t ih => rw [List.map_cons, List.map_cons, ih, h.1]
  refine call_update_dictH (knd := tupleKind (mixKind X.prog X.w)) (show X.A.units + 1 < cLine by omega) nab hd2 dd1 dd2 ?_ (by omega) fun h' hd' _ hs => ?_
  · rcases hap with w1 | w1
    · refine .inl fun e => w1 ?_
      rw [e] at l1
      exact List.length_eq_zero_iff.mp l1
    · refine .inr ⟨fun x hx => ?_, by rw [← hh]; exact w1⟩
      obtain ⟨_, _, _, _, _, _, _, his, _⟩ := id dd2
      exact tupleKind_stays.tuple (his x hx)
  · have hlen : (mergeT kvs more).length ≤ sizeLine := Nat.le_trans (length_mergeT more kvs) hl
    obtain ⟨qo, es, ep, hq1, h2, h3, h4, _, h5⟩ := hd'
    refine ⟨.non, upd H2 a (.dT (mergeT kvs more)), d_write (t' := s2.toks) I2 (by rw [ea]; exact True.intro) hs ⟨qo, hq1⟩ ⟨hlen, hd1, _, (kt_merge rel2 rel1).keeps fun c ys' ec => ?_, qo, es, ep, hq1, h2, h3, h4, h5⟩, rfl, q2⟩
    rw [upd_ne (ne_of ec ea (fun z => nomatch z))]
    exact ec
/-- d.setdefault(t, z) -/
def tDSetdT (td ty tx : TE) : TE := fun σ H Q => td σ H fun x H1 => ∃ a, x = .ref a ∧ IsD H1 a ∧ ty σ H1 fun y H2 => tx σ H2 fun z H3 => ∃ (kvs : List (List Key × V)) (k : List Key) (b : Addr), H3 a = some (.dT kvs) ∧ y = .ref b ∧ H3 b = some (.tup (k.map kV)) ∧ kvs.length < sizeLine ∧
  (∀ v, valV kvs k = some v → Q v H3) ∧ (valV kvs k = none → Q z (upd H3 a (.dT (putK kvs k z))))
theorem pe_dsetdT {o e f : Expr} {td ty tx : TE} {apos cpos : Pos} (hu : X.A.units + 5 < cLine) (ho : PE X o td) (he : PE X e ty) (hf : PE X f tx) (m : M2 X o "setdefault" apos e f cpos) : PE X (.Call (.Attribute o "setdefault" apos) [e, f] [] cpos) (tDSetdT td ty tx) := by
  constructor
  intro pins s σ H Q I h
  refine wpAny_Call_method m.base m.few m.line PySem.F.plainAttrs_dict PySem.F.slot_dict_setdefault PySem.F.type_dict_setdefault (thn (ho.run pins s σ H _ I h) fun u s1 ⟨x, H1, I1, rx, a, ex, d, q1⟩ => ?_)
  subst ex
  obtain rfl : u = Value.ref a := rx
  obtain ⟨t1, t2, _⟩ := isD_at I1 d
  refine ⟨t1, t2, ?_⟩
  rw [m.trees]
  refine Calls.callWith_builtin rfl (Calls.evalArgs_plain (Calls.spliced_cons (thn (he.run pins s1 σ H1 _ I1 q1) fun iv s2 ⟨y, H2, I2, ry, q2⟩ =>
    Calls.spliced_cons (thn (hf.run pins s2 σ H2 _ I2 q2) fun fv s3 ⟨z, H3, I3, rz, kvs, k, b, ea, ey, eb, hl, q3, q4⟩ => Calls.spliced_nil ?_))))
  subst ey
  cases ry
  obtain ⟨z1, hd, xs, rel, dd⟩ := dt_of I3.hok ea
  have l1 : kvs.length = xs.length := Paired.length rel
  have hv := rel.val k
  refine call_setdefault_heap (hsz := by omega) (tupleKind_room_in1 (show X.A.units + 1 < cLine by omega)) (key_of I3.hok eb) hd dd (fun p hp => ?_) fun hn h' dd' hs => ?_
  · rw [hp] at hv
    cases q0 : valV kvs k with
    | none =>
      rw [q0] at hv
      exact (show False from hv).elim
    | some v0 =>
      rw [q0] at hv
      exact ⟨v0, H3, I3.tok _, hv, q3 v0 q0⟩
  · rw [hn] at hv
    cases q0 : valV kvs k with
    | some v0 =>
      rw [q0] at hv
      exact (show False from hv).elim
    | none =>
      have hl2 : (putK kvs k z).length ≤ sizeLine := by
        have := length_putK kvs k z
        omega
      obtain ⟨qo, es, ep, hq1, h2, h3, h4, _, h5⟩ := dd'
      refine ⟨z, upd H3 a (.dT (putK kvs k z)), d_write I3 (by rw [ea]; exact True.intro) hs ⟨qo, hq1⟩ ⟨hl2, hd, _, (rel.put k eb rz).keeps fun c ys' ec => ?_, qo, es, ep, hq1, h2, h3, h4, h5⟩, rz, q4 q0⟩
      rw [upd_ne (ne_of ec ea (fun z => nomatch z))]
      exact ec
end
end LB
end
section
set_option Elab.async false
set_option linter.all false
set_option maxRecDepth 100000
set_option maxHeartbeats 4000000
namespace K25
open PySem PySem.Spec PyProof.Rows L2 LB
/-! ### the text by places -/
def topS (i : Nat) : Stmt := PySem.Challenge.pw_bornandshut_k25_cascades_and_least_shado.main.body.getD i (.Pass ⟨0, 0, 0, 0⟩)
abbrev s_init : Stmt := inClass (topS 1) 0
theorem sc_init : FnScope ["self", "what"] ["self", "what"] (defScope s_init) := ⟨rfl, rfl, rfl, by decide +kernel, rfl, by decide +kernel, by decide +kernel⟩
abbrev s_whole : Stmt := topS 3
theorem sc_whole : FnScope ["thing", "low", "high"] ["thing", "low", "high"] (defScope s_whole) := ⟨rfl, rfl, rfl, by decide +kernel, rfl, by decide +kernel, by decide +kernel⟩
abbrev s_asked_many : Stmt := topS 4
theorem sc_asked_many : FnScope ["thing", "low", "high"] ["thing", "low", "high"] (defScope s_asked_many) := ⟨rfl, rfl, rfl, by decide +kernel, rfl, by decide +kernel, by decide +kernel⟩
abbrev s_choose : Stmt := topS 8
theorem sc_choose : FnScope ["a", "i", "found", "k"] ["a", "i"] (defScope s_choose) := ⟨rfl, rfl, rfl, by decide +kernel, rfl, by decide +kernel, by decide +kernel⟩
abbrev s_top_of : Stmt := topS 9
theorem sc_top_of : FnScope ["i", "n", "low", "step", "high", "middle"] ["i", "n"] (defScope s_top_of) := ⟨rfl, rfl, rfl, by decide +kernel, rfl, by decide +kernel, by decide +kernel⟩
abbrev s_cascade_of : Stmt := topS 10
theorem sc_cascade_of : FnScope ["k", "n", "found", "a"] ["k", "n"] (defScope s_cascade_of) := ⟨rfl, rfl, rfl, by decide +kernel, rfl, by decide +kernel, by decide +kernel⟩
abbrev s_shadow_in : Stmt := topS 11
theorem sc_shadow_in : FnScope ["k", "n", "a", "i"] ["k", "n"] (defScope s_shadow_in) := ⟨rfl, rfl, rfl, by decide +kernel, rfl, by decide +kernel, by decide +kernel⟩
abbrev s_cascade : Stmt := topS 12
theorem sc_cascade : FnScope ["k", "n"] ["k", "n"] (defScope s_cascade) := ⟨rfl, rfl, rfl, by decide +kernel, rfl, by decide +kernel, by decide +kernel⟩
abbrev s_shadow : Stmt := topS 13
theorem sc_shadow : FnScope ["k", "n"] ["k", "n"] (defScope s_shadow) := ⟨rfl, rfl, rfl, by decide +kernel, rfl, by decide +kernel, by decide +kernel⟩
abbrev s_law_pool : Stmt := topS 15
theorem sc_law_pool : FnScope ["script", "k", "cell", "big", "stirred"] ["script", "k"] (defScope s_law_pool) := ⟨rfl, rfl, rfl, by decide +kernel, rfl, by decide +kernel, by decide +kernel⟩
abbrev s_law_take : Stmt := topS 16
theorem sc_law_take : FnScope ["jar", "top", "drawn"] ["jar", "top"] (defScope s_law_take) := ⟨rfl, rfl, rfl, by decide +kernel, rfl, by decide +kernel, by decide +kernel⟩
abbrev s_law_one : Stmt := topS 17
theorem sc_law_one : FnScope ["jar", "things"] ["jar", "things"] (defScope s_law_one) := ⟨rfl, rfl, rfl, by decide +kernel, rfl, by decide +kernel, by decide +kernel⟩
abbrev s_law_lots_of : Stmt := topS 18
theorem sc_law_lots_of : FnScope ["some", "found", "one", "lot"] ["some"] (defScope s_law_lots_of) := ⟨rfl, rfl, rfl, by decide +kernel, rfl, by decide +kernel, by decide +kernel⟩
abbrev s_law_odd_whole : Stmt := topS 19
theorem sc_law_odd_whole : FnScope ["jar", "low", "high"] ["jar", "low", "high"] (defScope s_law_odd_whole) := ⟨rfl, rfl, rfl, by decide +kernel, rfl, by decide +kernel, by decide +kernel⟩
abbrev s_law_is_whole : Stmt := topS 20
theorem sc_law_is_whole : FnScope ["thing"] ["thing"] (defScope s_law_is_whole) := ⟨rfl, rfl, rfl, by decide +kernel, rfl, by decide +kernel, by decide +kernel⟩
abbrev s_law_like : Stmt := topS 21
theorem sc_law_like : FnScope ["told", "owed", "key", "at"] ["told", "owed"] (defScope s_law_like) := ⟨rfl, rfl, rfl, by decide +kernel, rfl, by decide +kernel, by decide +kernel⟩
abbrev s_law_ca_said : Stmt := topS 22
theorem sc_law_ca_said : FnScope ["asked", "refused_one"] ["asked"] (defScope s_law_ca_said) := ⟨rfl, rfl, rfl, by decide +kernel, rfl, by decide +kernel, by decide +kernel⟩
abbrev s_law_ca_choose : Stmt := topS 23
theorem sc_law_ca_choose : FnScope ["a", "i", "found", "n"] ["a", "i"] (defScope s_law_ca_choose) := ⟨rfl, rfl, rfl, by decide +kernel, rfl, by decide +kernel, by decide +kernel⟩
abbrev s_law_ca_is_cascade : Stmt := topS 24
theorem sc_law_ca_is_cascade : FnScope ["k", "n", "thing", "at", "pair", "a", "i"] ["k", "n", "thing"] (defScope s_law_ca_is_cascade) := ⟨rfl, rfl, rfl, by decide +kernel, rfl, by decide +kernel, by decide +kernel⟩
abbrev s_law_ca_right : Stmt := topS 25
theorem sc_law_ca_right : FnScope ["k", "n", "told", "a", "i"] ["k", "n"] (defScope s_law_ca_right) := ⟨rfl, rfl, rfl, by decide +kernel, rfl, by decide +kernel, by decide +kernel⟩
abbrev s_law_ca_sets : Stmt := topS 26
theorem sc_law_ca_sets : FnScope ["k", "many", "found", "lot"] ["k", "many"] (defScope s_law_ca_sets) := ⟨rfl, rfl, rfl, by decide +kernel, rfl, by decide +kernel, by decide +kernel⟩
abbrev s_law_ca_below : Stmt := topS 27
theorem sc_law_ca_below : FnScope ["lot", "found", "one", "at"] ["lot"] (defScope s_law_ca_below) := ⟨rfl, rfl, rfl, by decide +kernel, rfl, by decide +kernel, by decide +kernel⟩
abbrev s_law_ca_lots_right : Stmt := topS 28
theorem sc_law_ca_lots_right : FnScope ["k", "many", "sets_now", "rows", "least", "masks", "names", "one", "mask", "at", "face", "n", "here", "found"] ["k", "many"] (defScope s_law_ca_lots_right) := ⟨rfl, rfl, rfl, by decide +kernel, rfl, by decide +kernel, by decide +kernel⟩
abbrev s_law_ca_ones : Stmt := topS 29
theorem sc_law_ca_ones : FnScope ["mask", "found"] ["mask"] (defScope s_law_ca_ones) := ⟨rfl, rfl, rfl, by decide +kernel, rfl, by decide +kernel, by decide +kernel⟩
abbrev s_law_ca_drawn_right : Stmt := topS 30
theorem sc_law_ca_drawn_right : FnScope ["jar", "k", "turn", "n", "a", "whole_v", "many", "here", "later"] ["jar"] (defScope s_law_ca_drawn_right) := ⟨rfl, rfl, rfl, by decide +kernel, rfl, by decide +kernel, by decide +kernel⟩
abbrev s_law : Stmt := topS 31
theorem sc_law : FnScope ["script", "k", "jar", "size", "many", "far", "wide", "told", "deed"] ["script"] (defScope s_law) := ⟨rfl, rfl, rfl, by decide +kernel, rfl, by decide +kernel, by decide +kernel⟩

/-- names of the built-ins that the text leaves as they are -/
structure Bt (mg : Str → Option Value) : Prop where
  m_range : mg "range" = none
  m_len : mg "len" = none
  m_int : mg "int" = none
  m_bool : mg "bool" = none
  m_str : mg "str" = none
  m_dict : mg "dict" = none
  m_tuple : mg "tuple" = none
  m_list : mg "list" = none
  m_isinstance : mg "isinstance" = none
  m_sum : mg "sum" = none
  m_max : mg "max" = none
  m_min : mg "min" = none
  m_sorted : mg "sorted" = none
  c_MOST_SIZE : ∃ u, mg "MOST_SIZE" = some u ∧ RelV (.int 7) u
  c_MOST_SETS : ∃ u, mg "MOST_SETS" = some u ∧ RelV (.int 1000000) u
end K25
end
section
set_option Elab.async false
set_option linter.all false
set_option maxRecDepth 100000
set_option maxHeartbeats 4000000
namespace K25
open PySem PySem.Spec PyProof.Rows L2 LB
local macro_rules | `(tactic| walk_at "rd") => `(tactic| repeat (first | refine ⟨_, rfl, ?_⟩ | refine ⟨_, _, rfl, rfl, ?_⟩ | refine ⟨_, _, rfl, ?_⟩))
theorem iteD {p : Prop} [Decidable p] {A B : Prop} (h1 : p → A) (h2 : ¬ p → B) : if decide p = true then A else B := by
  by_cases h : p
  · rw [decide_eq_true h]; exact iteT (h1 h)
  · rw [decide_eq_false h]; exact iteF (h2 h)
/-- the program's choose -/
def chz (a i : Int) : Int := if i < 0 ∨ a < i then 0 else (C a.toNat i.toNat : Int)
theorem chz_nat {a i : Nat} (h : i ≤ a) : chz a i = C a i := by
  unfold chz
  rw [if_neg (by omega)]
  rfl
theorem chz_nat' (a i : Nat) : chz a i = C a i := by
  by_cases h : i ≤ a
  · exact chz_nat h
  · unfold chz
    rw [if_pos (by omega), C_big a i (by omega)]
    rfl
def spChoose : Sp := fun vs H Q _ => ∃ a i : Int, vs = [.int a, .int i] ∧ i ≤ 100 ∧ a < 2 ^ 60 ∧ Q (.int (chz a i)) H
section
variable {P : Program} {w : World} {K : PySem.W.Frag} {mg : Str → Option Value} {base : Heap}
theorem ok_choose (D : Dn K mg "choose" s_choose ["a", "i"]) (T : Bt mg) : Cal P w K mg base 1 "choose" spChoose := by
  refine cal_of D sc_choose (fun vs H Q E h => ?_) (fun f cdv A outer s H vs Q E hr h => ?_)
  · obtain ⟨a, i, rfl, _⟩ := h
    rfl
  · obtain ⟨a, i, rfl, hi, ha, q⟩ := h
    refine ⟨_, (pss_cons (ps_if (PW.pt (pw_or (pt_cmpR op_lt (pv 1) pe_int (nomark _)) (pw_or1 (pt_cmpR op_gt (pv 1) (pv 0) (nomark _))))) (pss_one (ps_ret pe_int)) pss_nil)
      (pss_cons (ps_set (i := 2) sc_choose.nd rfl (Or.inl rfl) pe_int)
      (pss_cons (ps_for PassesOwn.never rfl (pi_range1 (by rfl) T.m_range (pa_cons (pv 1) pa_nil)) (pg_name (i := 3) sc_choose.nd rfl (Or.inl rfl)) (pss_one (ps_set (i := 2) sc_choose.nd rfl (Or.inl rfl) (pe_op op_fdiv (pe_op op_mul (pv 2) (pe_op op_sub (pv 0) (pv 3))) (pe_op op_add (pv 3) pe_int)))))
      (pss_one (ps_ret (pv 2)))))), ?_⟩
    walk_at "rd"
    refine iteD (fun h0 => ?_) (fun h0 => ?_)
    · refine iteT ?_
      have e : chz a i = 0 := if_pos (Or.inl h0)
      rw [e] at q
      exact q
    · walk_at "rd"
      refine iteD (fun h1 => ?_) (fun h1 => ?_)
      · have e : chz a i = 0 := if_pos (Or.inr h1)
        rw [e] at q
        exact q
      · obtain ⟨n, rfl⟩ : ∃ n : Nat, i = n := ⟨i.toNat, by omega⟩
        obtain ⟨m, rfl⟩ : ∃ m : Nat, a = m := ⟨a.toNat, by omega⟩
        have hnm : n ≤ m := by omega
        rw [chz_nat hnm] at q
        refine ⟨_, rfl, _, rfl, by omega, by omega, for_range (lo := 0) (n := (n : Int).toNat)
          (fun j σ H' => ∃ v3, σ = [some (.int m), some (.int n), some (.int (C m j : Nat)), v3] ∧ H' = H) ⟨none, by rw [C_zero]; rfl, rfl⟩ ?_ ?_⟩
        · rintro j σ H' hj ⟨v3, rfl, rfl⟩
          have hj' : j < n := by omega
          refine ⟨_, rfl, _, rfl, _, rfl, _, _, rfl, rfl, _, _, rfl, rfl, Or.inr ⟨?_, ?_⟩, _, rfl, _, _, rfl, rfl, _, _, rfl, rfl, ⟨?_, ?_⟩, ?_⟩
          · omega
          · omega
          · omega
          · omega
          · refine ⟨some (.int (0 + (j : Int))), ?_, rfl⟩
            have e1 : ((m : Int) - (0 + (j : Int))) = ((m - j : Nat) : Int) := by omega
            have e2 : (0 + (j : Int) + 1) = ((j + 1 : Nat) : Int) := by omega
            have e3 : ((C m j : Nat) : Int) * ((m : Int) - (0 + (j : Int))) / (0 + (j : Int) + 1) = ((C m (j + 1) : Nat) : Int) := by
              rw [e1, e2, ← Int.natCast_mul, C_turn (by omega), ← Int.natCast_ediv, Nat.mul_div_cancel _ (by omega)]
            rw [← e3]
            rfl
        · rintro σ H' ⟨v3, rfl, rfl⟩
          exact ⟨_, rfl, q⟩

def spTop : Sp := fun vs H Q _ => ∃ k n : Nat, vs = [.int ((k + 1 : Nat) : Int), .int (n : Int)] ∧ k + 1 ≤ 7 ∧ n ≤ 1000000 ∧ Q (.int (top (k + 1) n : Nat)) H
theorem ok_top_of (D : Dn K mg "top_of" s_top_of ["i", "n"]) (T : Bt mg) (f_choose : Cal P w K mg base 1 "choose" spChoose) : Cal P w K mg base 2 "top_of" spTop := by
  refine cal_of D sc_top_of (fun vs H Q E h => ?_) (fun f cdv A outer s H vs Q E hr h => ?_)
  · obtain ⟨a, i, rfl, _⟩ := h
    rfl
  · obtain ⟨k, n, rfl, hk, hn, q⟩ := h
    refine ⟨_, (pss_cons (ps_par (i := 2) (j := 3) (by rfl) sc_top_of.nd rfl rfl (by decide) rfl rfl (pa_cons (pe_op op_sub (pv 0) pe_int) (pa_cons pe_int pa_nil)) (by rfl))
      (pss_cons (ps_while PassesOwn.never (pt_cmpR op_le (LB.pe_c f_choose hr (by decide) (by rfl) (pa_cons (pe_op op_add (pv 2) (pv 3)) (pa_cons (pv 0) pa_nil))) (pv 1) (nomark _)) (pss_one (ps_set (i := 3) sc_top_of.nd rfl (Or.inl rfl) (pe_op op_mul pe_int (pv 3)))))
      (pss_cons (ps_set (i := 4) sc_top_of.nd rfl (Or.inl rfl) (pe_op op_add (pv 2) (pv 3)))
      (pss_cons (ps_while PassesOwn.never (pt_cmpR op_gt (pe_op op_sub (pv 4) (pv 2)) pe_int (nomark _)) (pss_cons (ps_set (i := 5) sc_top_of.nd rfl (Or.inl rfl) (pe_op op_fdiv (pe_op op_add (pv 2) (pv 4)) pe_int))
      (pss_one (ps_if (pt_cmpR op_le (LB.pe_c f_choose hr (by decide) (by rfl) (pa_cons (pv 5) (pa_cons (pv 0) pa_nil))) (pv 1) (nomark _)) (pss_one (ps_set (i := 2) sc_top_of.nd rfl (Or.inl rfl) (pv 5))) (pss_one (ps_set (i := 4) sc_top_of.nd rfl (Or.inl rfl) (pv 5)))))))
      (pss_one (ps_ret (pv 2))))))), ?_⟩
    walk_at "rd"
    -- the first while: the step doubles till there are more than n
    refine ⟨fun m σ H' => ∃ st : Nat, σ = [some (.int ((k + 1 : Nat) : Int)), some (.int n), some (.int (k : Nat)), some (.int (st : Nat)), none, none] ∧ H' = H ∧ 1 ≤ st ∧ st ≤ 2 * n + 1 ∧ m = 2 * n + 1 - st, ⟨_, 1, ?_, rfl, Nat.le_refl _, by omega, rfl⟩, ?_⟩
    · show [some (V.int ((k + 1 : Nat) : Int)), some (.int n), some (.int (((k + 1 : Nat) : Int) - 1)), some (.int 1), none, none] = _
      rw [show ((k + 1 : Nat) : Int) - 1 = (k : Nat) by omega]
      rfl
    · rintro m σ H' ⟨st, rfl, rfl, h1, h2, rfl⟩
      walk_at "rd"
      refine ⟨by omega, by omega, ?_⟩
      rw [show (k : Int) + (st : Int) = ((k + st : Nat) : Int) by omega, chz_nat' (k + st) (k + 1)]
      walk_at "rd"
      refine iteD (fun h0 => ?_) (fun h0 => ?_)
      · have hC := C_ge k st
        refine ⟨fun σ' H'' => ∃ st' : Nat, st' = 2 * st ∧ σ' = [some (.int ((k + 1 : Nat) : Int)), some (.int n), some (.int (k : Nat)), some (.int (st' : Nat)), none, none] ∧ H'' = H', fun σ' H'' hh => ?_, ?_⟩
        · obtain ⟨st', rfl, rfl, rfl⟩ := hh
          exact ⟨_, by omega, 2 * st, rfl, rfl, by omega, by omega, rfl⟩
        · refine ⟨_, rfl, _, _, rfl, rfl, Or.inl ⟨by decide, by decide⟩, 2 * st, rfl, ?_, rfl⟩
          rw [show ((2 * st : Nat) : Int) = 2 * (st : Int) by omega]
          rfl
      · walk_at "rd"
        -- the second while
        refine ⟨fun m σ H'' => ∃ (lo hi : Nat) (v5 : Option V), σ = [some (.int ((k + 1 : Nat) : Int)), some (.int n), some (.int (lo : Nat)), some (.int (st : Nat)), some (.int (hi : Nat)), v5] ∧ H'' = H' ∧ lo < hi ∧ hi ≤ 4000000 ∧ C lo (k + 1) ≤ n ∧ n < C hi (k + 1) ∧ m = hi - lo, ⟨_, k, k + st, none, ?_, rfl, by omega, by omega, ?_, by omega, rfl⟩, ?_⟩
        · rw [show ((k + st : Nat) : Int) = (k : Int) + (st : Int) by omega]
          rfl
        · rw [C_big k (k + 1) (by omega)]
          exact Nat.zero_le _
        · rintro m σ H'' ⟨lo, hi, v5, rfl, rfl, g1, g2, g3, g4, rfl⟩
          walk_at "rd"
          refine iteD (fun c0 => ?_) (fun c0 => ?_)
          · refine ⟨fun σ' H3 => ∃ (lo' hi' : Nat) (v5 : Option V), σ' = [some (.int ((k + 1 : Nat) : Int)), some (.int n), some (.int (lo' : Nat)), some (.int (st : Nat)), some (.int (hi' : Nat)), v5] ∧ H3 = H'' ∧ lo' < hi' ∧ hi' ≤ 4000000 ∧ C lo' (k + 1) ≤ n ∧ n < C hi' (k + 1) ∧ hi' - lo' < hi - lo, fun σ' H3 hh => ?_, ?_⟩
            · obtain ⟨lo', hi', v', rfl, rfl, a1, a2, a3, a4, a5⟩ := hh
              exact ⟨_, a5, lo', hi', v', rfl, rfl, a1, a2, a3, a4, rfl⟩
            · walk_at "rd"
              refine ⟨⟨by decide, by decide⟩, ?_⟩
              have em : ((lo : Int) + (hi : Int)) / 2 = (((lo + hi) / 2 : Nat) : Int) := by omega
              walk_at "rd"
              refine ⟨by omega, by omega, ?_⟩
              rw [em, chz_nat' _ (k + 1)]
              walk_at "rd"
              refine iteD (fun c1 => ?_) (fun c1 => ?_)
              · refine ⟨_, rfl, (lo + hi) / 2, hi, some (.int (((lo + hi) / 2 : Nat) : Int)), rfl, rfl, by omega, by omega, by omega, by omega, by omega⟩
              · refine ⟨_, rfl, lo, (lo + hi) / 2, some (.int (((lo + hi) / 2 : Nat) : Int)), rfl, rfl, by omega, by omega, by omega, by omega, by omega⟩
          · refine ⟨_, rfl, ?_⟩
            have eh : hi = lo + 1 := by omega
            rw [eh] at g4
            rw [top_eq g3 g4] at q
            exact q

def dp2 (p : Nat × Nat) : PyData := .tuple [.int (p.1 : Nat), .int (p.2 : Nat)]
def spCasc (K : PySem.W.Frag) : Sp := fun vs H Q _ => ∃ k n : Nat, vs = [.int (k : Nat), .int (n : Nat)] ∧ k ≤ 7 ∧ n ≤ 1000000 ∧ (k = 0 → n = 0) ∧
  ∀ (p : Addr) (H' : Hp) (items : List V), H p = none → Evl.Ex H H' → H' p = some (.lst items) → DpAll K H' items ((casc k n).map dp2) → Q (.ref p) H'
theorem ok_cascade_of (D : Dn K mg "cascade_of" s_cascade_of ["k", "n"]) (T : Bt mg) (f_choose : Cal P w K mg base 1 "choose" spChoose) (f_top_of : Cal P w K mg base 2 "top_of" spTop) : Cal P w K mg base 3 "cascade_of" (spCasc K) := by
  refine cal_of D sc_cascade_of (fun vs H Q E h => ?_) (fun f cdv A outer s H vs Q E hr h => ?_)
  · obtain ⟨a, i, rfl, _⟩ := h
    rfl
  · obtain ⟨k, n, rfl, hk, hn, hkn, q⟩ := h
    refine ⟨_, (pss_cons (ps_set (i := 2) sc_cascade_of.nd rfl (Or.inl rfl) (pe_lst pa_nil))
      (pss_cons (ps_while PassesOwn.never (pt_cmpR op_gt (pv 1) pe_int (nomark _)) (pss_cons (ps_set (i := 3) sc_cascade_of.nd rfl (Or.inl rfl) (LB.pe_c f_top_of hr (by decide) (by rfl) (pa_cons (pv 0) (pa_cons (pv 1) pa_nil))))
      (pss_cons (ps_expr (pe_bm PySem.F.plainAttrs_list PySem.F.slot_list_append PySem.F.type_list_append mt_append (pv 2) (pa_cons (pe_tup (pa_cons (pv 3) (pa_cons (pv 0) pa_nil))) pa_nil)))
      (pss_cons (ps_set (i := 1) sc_cascade_of.nd rfl (Or.inl rfl) (pe_op op_sub (pv 1) (LB.pe_c f_choose hr (by decide) (by rfl) (pa_cons (pv 3) (pa_cons (pv 0) pa_nil)))))
      (pss_one (ps_set (i := 0) sc_cascade_of.nd rfl (Or.inl rfl) (pe_op op_sub (pv 0) pe_int)))))))
      (pss_one (ps_ret (pv 2))))), ?_⟩
    refine ⟨Nat.zero_le _, fun p hp => ?_⟩
    refine ⟨fun m σ H' => ∃ (k' n' : Nat) (v3 : Option V) (items : List V) (l : List (Nat × Nat)), σ = [some (V.int (k' : Nat)), some (V.int (n' : Nat)), some (V.ref p), v3] ∧ But [p] H H' ∧ H' p = some (.lst items) ∧ DpAll K (cut [p] H') items (l.map dp2) ∧
      l ++ casc k' n' = casc k n ∧ l.length + k' = k ∧ n' ≤ 1000000 ∧ (k' = 0 → n' = 0) ∧ m = k', ⟨_, k, n, none, [], [], rfl, But.new hp, upd_same, .nil, rfl, by simp, hn, hkn, rfl⟩, ?_⟩
    rintro m σ H' ⟨k', n', v3, items, l, rfl, hb, hpl, ha, hl, hlen, hn', hk0, rfl⟩
    walk_at "rd"
    refine iteD (fun c0 => ?_) (fun c0 => ?_)
    · obtain ⟨j, rfl⟩ : ∃ j, m = j + 1 := ⟨m - 1, by omega⟩
      have hpos : 0 < n' := by omega
      refine ⟨fun σ' H'' => ∃ (t3 : V) (items' : List V), σ' = [some (V.int (j : Nat)), some (V.int ((n' - C (top (j + 1) n') (j + 1) : Nat) : Int)), some (V.ref p), some t3] ∧ But [p] H H'' ∧ H'' p = some (.lst items') ∧ DpAll K (cut [p] H'') items' ((l ++ [(top (j + 1) n', j + 1)]).map dp2), fun σ' H'' hh => ?_, ?_⟩
      · obtain ⟨t3, items', rfl, b1, b2, b3⟩ := hh
        refine ⟨j, by omega, j, _, some t3, items', _, rfl, b1, b2, b3, ?_, by simp; omega, by omega, fun e => ?_, rfl⟩
        · rw [List.append_assoc, ← hl, casc_cons hpos]
          rfl
        · subst e
          exact rest_one
      · have t1 := @top_le j n'
        refine ⟨_, rfl, _, rfl, j, n', rfl, by omega, hn', ?_⟩
        refine ⟨_, rfl, Or.inl ⟨rfl, _, Or.inl (Or.inl hpl)⟩, ?_⟩
        refine ⟨_, rfl, _, rfl, (by show 2 ≤ sizeLine; decide), fun t ht => ?_⟩
        have ntp : p ≠ t := ne_of_none hpl ht
        refine ⟨p, items, _, rfl, rfl, by rw [upd_ne ntp]; exact hpl, ?_, ?_⟩
        · rw [ha.len, List.length_map]
          exact small1000 (by omega)
        · refine ⟨_, rfl, _, rfl, _, rfl, _, _, rfl, by omega, ?_, ?_⟩
          · have := top_bound (k := j) (n := n')
            omega
          rw [chz_nat' _ (j + 1)]
          refine ⟨_, _, rfl, rfl, ?_⟩
          refine ⟨_, rfl, _, _, rfl, rfl, .int ((top (j + 1) n' : Nat) : Int), _, ?_, ?_, upd_same, ?_⟩
          · rw [show ((n' - C (top (j + 1) n') (j + 1) : Nat) : Int) = (n' : Int) - (C (top (j + 1) n') (j + 1) : Nat) by omega, show ((j : Nat) : Int) = ((j + 1 : Nat) : Int) - 1 by omega]
            rfl
          · exact hb.trans ((But.new ht).trans (But.put (by simp)))
          · rw [List.map_append]
            have e1 : Evl.Ex (cut [p] H') (cut [p] (upd (upd H' t (.tup [.int ((top (j + 1) n' : Nat) : Int), .int ((j + 1 : Nat) : Int)])) p (.lst (items ++ [.ref t])))) := But.cut ((But.new ht).trans (But.put (by simp)))
            refine (ha.up e1).app (.cons (.tup (Or.inl (Or.inl ?_)) (.cons (.int _) (.cons (.int _) .nil))) .nil)
            rw [cut_out (by simpa using ntp.symm), upd_ne ntp.symm, upd_same]
    · have e0 : n' = 0 := by omega
      subst e0
      rw [casc_nil, List.append_nil] at hl
      refine ⟨_, rfl, q p H' items hp (hb.ex fun a h => ?_) hpl ?_⟩
      · rw [List.mem_singleton.mp h]
        exact hp
      · rw [← hl]
        exact ha.up ex_cut
end
end K25
end
section
set_option Elab.async false
set_option linter.all false
set_option maxRecDepth 100000
set_option maxHeartbeats 4000000
namespace K25
open PySem PySem.Spec PyProof.Rows L2 LB
local macro_rules | `(tactic| walk_at "rd") => `(tactic| repeat (first | refine ⟨_, rfl, ?_⟩ | refine ⟨_, _, rfl, rfl, ?_⟩ | refine ⟨_, _, rfl, ?_⟩))
/-- a number from lo to hi that is no truth -/
def wholeB (d : PyData) (lo hi : Int) : Bool := match d with
  | .int i => decide (lo ≤ i) && decide (i ≤ hi)
  | _ => false
def spWhole (K : PySem.W.Frag) : Sp := fun vs H Q _ => ∃ (v : V) (d : PyData) (lo hi : Int), vs = [v, .int lo, .int hi] ∧ Dp K H v d ∧ Q (.bl (wholeB d lo hi)) H
def spAsked (K : PySem.W.Frag) (C : Addr) : Sp := fun vs H Q E => ∃ (v : V) (d : PyData) (lo hi : Int), vs = [v, .int lo, .int hi] ∧ Dp K H v d ∧ (wholeB d lo hi = true → Q .non H) ∧
  (wholeB d lo hi = false → ∀ x, H x = none → E (.ref C) (some x) (upd H x (.xd [("what", v)])))
section
variable {P : Program} {w : World} {K : PySem.W.Frag} {mg : Str → Option Value} {base : Heap}
theorem ok_init {fI : Addr} (R : RefI K mg s_init fI) : InitOk P w K mg base fI :=
  init_ok R sc_init fun f cdv A outer s H E => pss_cons (ps_expr (pe_veinit (by rfl) R.m_VE R.ve (pa_cons (pv 0) (pa_cons (pv 1) pa_nil)))) (pss_one (ps_ost (pv 0) (pv 1)))
theorem ok_whole (D : Dn K mg "whole" s_whole ["thing", "low", "high"]) (T : Bt mg) : Cal P w K mg base 1 "whole" (spWhole K) := by
  refine cal_of D sc_whole (fun vs H Q E h => ?_) (fun f cdv A outer s H vs Q E hr h => ?_)
  · obtain ⟨v, d, lo, hi, rfl, _⟩ := h
    rfl
  · obtain ⟨v, d, lo, hi, rfl, hd, q⟩ := h
    refine ⟨_, (pss_one (ps_ret (pe_and (pe_callB call_isi (by rfl) T.m_isinstance (by decide +kernel) (pa_cons (pv 0) (pa_cons (pe_bltn (v := .ty "int") (u := .type "int") (by rfl) T.m_int (by decide +kernel) rfl) pa_nil))) (pe_and (pe_not (pe_callB call_isi (by rfl) T.m_isinstance (by decide +kernel) (pa_cons (pv 0) (pa_cons (pe_bltn (v := .ty "bool") (u := .type "bool") (by rfl) T.m_bool (by decide +kernel) rfl) pa_nil)))) (pe_one (pe_chain op_le op_le (pv 1) (pv 0) (pv 2))))))), ?_⟩
    refine ⟨_, rfl, v, .ty "int", _, _, _, rfl, .ty "int", dp_ty hd, kit_int hd, _, rfl, ?_⟩
    cases hd with
    | int i =>
      refine iteT ⟨_, rfl, _, .ty "bool", _, _, _, rfl, .ty "bool", dp_ty (Dp.int i), kit_bool (Dp.int (H := H) (K := K) i), _, rfl, _, rfl, iteT ?_⟩
      refine ⟨_, rfl, _, rfl, _, _, rfl, rfl, _, rfl, iteD (fun c => ?_) (fun c => ?_)⟩
      · refine ⟨_, rfl, _, _, rfl, rfl, ?_⟩
        have e : wholeB (.int i) lo hi = decide (i ≤ hi) := by
          show (decide (lo ≤ i) && decide (i ≤ hi)) = _
          rw [decide_eq_true c, Bool.true_and]
        rw [e] at q
        exact q
      · have e : wholeB (.int i) lo hi = false := by
          show (decide (lo ≤ i) && decide (i ≤ hi)) = _
          rw [decide_eq_false c, Bool.false_and]
        rw [e] at q
        exact q
    | bl b =>
      refine iteT ⟨_, rfl, _, .ty "bool", _, _, _, rfl, .ty "bool", dp_ty (Dp.bl b), kit_bool (Dp.bl (H := H) (K := K) b), _, rfl, _, rfl, iteF ?_⟩
      exact q
    | non => exact iteF q
    | str x => exact iteF q
    | lst _ _ => exact iteF q
    | tup _ _ => exact iteF q
theorem ok_asked_many {C fI : Addr} (D : Dn K mg "asked_many" s_asked_many ["thing", "low", "high"]) (XB : XCl K mg "BadMany" C fI) (iI : InitOk P w K mg base fI) (f_whole : Cal P w K mg base 1 "whole" (spWhole K)) : CalX P w K mg base 3 "asked_many" (spAsked K C) := by
  refine calx_of D sc_asked_many (fun vs H Q E h => ?_) (fun f cdv A outer s H vs Q E hr h => ?_)
  · obtain ⟨v, d, lo, hi, rfl, _⟩ := h
    rfl
  · obtain ⟨v, d, lo, hi, rfl, hd, q1, q2⟩ := h
    refine ⟨_, (pss_one (ps_if (pt_not (pt_val (LB.pe_c f_whole hr (by decide) (by rfl) (pa_cons (pv 0) (pa_cons (pv 1) (pa_cons (pv 2) pa_nil)))))) (pss_one (ps_raiseX rfl (takes_of rfl rfl rfl rfl) XB iI hr (by decide) (by rfl) (pv 0))) pss_nil)), ?_⟩
    refine ⟨_, rfl, _, rfl, _, rfl, v, d, lo, hi, rfl, hd, _, rfl, ?_⟩
    cases hw : wholeB d lo hi with
    | true => exact iteF (q1 hw)
    | false => exact iteT ⟨_, rfl, mk_ref XB (q2 hw)⟩
/-- what cascade and shadow make of numbers that are none -/
def spCascade (K : PySem.W.Frag) (C : Addr) : Sp := fun vs H Q E => ∃ (v1 v2 : V) (d1 d2 : PyData), vs = [v1, v2] ∧ Dp K H v1 d1 ∧ Dp K H v2 d2 ∧
  (wholeB d1 1 7 = false → ∀ x, H x = none → E (.ref C) (some x) (upd H x (.xd [("what", v1)]))) ∧
  (wholeB d1 1 7 = true → wholeB d2 0 1000000 = false → ∀ x, H x = none → E (.ref C) (some x) (upd H x (.xd [("what", v2)]))) ∧
  (wholeB d1 1 7 = true → wholeB d2 0 1000000 = true → ∀ k n : Nat, d1 = .int (k : Nat) → d2 = .int (n : Nat) → ∀ (p : Addr) (H' : Hp) (items : List V), H p = none → Evl.Ex H H' → H' p = some (.tup items) → DpAll K H' items ((casc k n).map dp2) → Q (.ref p) H')
def spShadow (K : PySem.W.Frag) (C : Addr) : Sp := fun vs H Q E => ∃ (v1 v2 : V) (d1 d2 : PyData), vs = [v1, v2] ∧ Dp K H v1 d1 ∧ Dp K H v2 d2 ∧
  (wholeB d1 1 7 = false → ∀ x, H x = none → E (.ref C) (some x) (upd H x (.xd [("what", v1)]))) ∧
  (wholeB d1 1 7 = true → wholeB d2 0 1000000 = false → ∀ x, H x = none → E (.ref C) (some x) (upd H x (.xd [("what", v2)]))) ∧
  (wholeB d1 1 7 = true → wholeB d2 0 1000000 = true → ∀ k n : Nat, d1 = .int (k : Nat) → d2 = .int (n : Nat) → ∀ (H' : Hp), Evl.Ex H H' → Q (.int (shad k n : Nat)) H')
def spShadowIn : Sp := fun vs H Q _ => ∃ k n : Nat, vs = [.int (k : Nat), .int (n : Nat)] ∧ k ≤ 7 ∧ n ≤ 1000000 ∧ (k = 0 → n = 0) ∧ ∀ (H' : Hp), Evl.Ex H H' → Q (.int (shad k n : Nat)) H'
theorem dp2_get {H : Hp} {items : List V} {l : List (Nat × Nat)} {i : Nat} {x : V} (ha : DpAll K H items (l.map dp2)) (hx : items[i]? = some x) : ∃ (t : Addr) (p : Nat × Nat), x = .ref t ∧ l[i]? = some p ∧ SqT K H t [.int (p.1 : Nat), .int (p.2 : Nat)] := by
  obtain ⟨d, h1, h2⟩ := ha.get hx
  rw [List.getElem?_map] at h1
  cases e : l[i]? with
  | none => rw [e] at h1; cases h1
  | some p =>
    rw [e] at h1
    have h1' : dp2 p = d := Option.some.inj h1
    subst h1'
    cases h2 with
    | tup hs hd =>
      cases hd with
      | cons a1 a2 =>
        cases a2 with
        | cons a2 a3 =>
          cases a3
          cases a1
          cases a2
          exact ⟨_, p, rfl, rfl, hs⟩
theorem falls_mem : ∀ {l : List (Nat × Nat)} {k : Nat}, Falls k l → ∀ p ∈ l, 1 ≤ p.2 ∧ p.2 ≤ k ∧ p.2 ≤ p.1
  | [], _, _, _, h => nomatch h
  | (a, i) :: r, k, ⟨h1, h2, h3, _, h5⟩, p, hp => by
    rcases List.mem_cons.mp hp with e | e
    · subst e
      exact ⟨h2, Nat.le_of_eq h1, h3⟩
    · have := falls_mem h5 p e
      omega
theorem casc_bound : ∀ (k n : Nat), ∀ p ∈ casc k n, p.1 ≤ n + k
  | 0, n, p, hp => by simp [casc] at hp
  | k + 1, n, p, hp => by
    by_cases h : n = 0
    · rw [h, casc_nil] at hp
      cases hp
    · rw [casc_cons (by omega)] at hp
      rcases List.mem_cons.mp hp with e | e
      · rw [e]
        exact top_bound
      · have := casc_bound k _ p e
        omega
theorem take_snoc {α : Type} {l : List α} {i : Nat} {x : α} (h : l[i]? = some x) : l.take (i + 1) = l.take i ++ [x] := by
  rw [List.take_add_one, h]
  rfl
theorem sumB_nat : ∀ l : List (Nat × Nat), (l.map fun q => ((C q.1 (q.2 - 1) : Nat) : Int)).sum = ((sumB l : Nat) : Int)
  | [] => rfl
  | p :: l => by
    rw [List.map_cons, List.sum_cons, sumB_nat l]
    show _ = (((C p.1 (p.2 - 1) + sumB l : Nat)) : Int)
    omega
theorem ok_shadow_in (D : Dn K mg "shadow_in" s_shadow_in ["k", "n"]) (T : Bt mg) (f_choose : Cal P w K mg base 1 "choose" spChoose) (f_cascade_of : Cal P w K mg base 3 "cascade_of" (spCasc K)) : Cal P w K mg base 4 "shadow_in" spShadowIn := by
  refine cal_of D sc_shadow_in (fun vs H Q E h => ?_) (fun f cdv A outer s H vs Q E hr h => ?_)
  · obtain ⟨a, i, rfl, _⟩ := h
    rfl
  · obtain ⟨k, n, rfl, hk, hn, hkn, q⟩ := h
    refine ⟨_, (pss_one (ps_ret (pe_callB (cr_sum rfl) (by rfl) T.m_sum (by decide +kernel) (pa_cons (pe_lc (own := [("a", 2), ("i", 3)]) rfl sc_shadow_in.nd (pi_list (LB.pe_c f_cascade_of hr (by decide) (by rfl) (pa_cons (pv 0) (pa_cons (pv 1) pa_nil)))) (blkOk_by (N := ["k", "n", "a", "i"]) (sc := defScope s_shadow_in) (by decide +kernel)) (fun _ _ _ _ _ => (LB.pg_tupK (K := K) 2 rfl rfl (pgs_cons (pg_name (i := 2) sc_shadow_in.nd rfl (Or.inl rfl)) (pgs_cons (pg_name (i := 3) sc_shadow_in.nd rfl (Or.inl rfl)) pgs_nil)))) (fun _ _ _ _ _ => pts_nil) (fun _ _ _ _ _ => (LB.pe_c f_choose hr (by decide) (by rfl) (pa_cons (pv 2) (pa_cons (pe_op op_sub (pv 3) pe_int) pa_nil))))) pa_nil)))), ?_⟩
    refine ⟨_, rfl, _, rfl, k, n, rfl, hk, hn, hkn, fun p H1 items hp e1 h1 ha => ?_⟩
    have hlen : items.length = (casc k n).length := by rw [ha.len, List.length_map]
    refine ⟨p, rfl, ⟨items, Or.inl (Or.inl h1)⟩, fun Dl hD => lc_list (K := K) (a := p) (xs := items) (fun i H' => Evl.Ex H1 H' ∧ H' Dl = some (.lst ((((casc k n).take i).map fun q => ((C q.1 (q.2 - 1) : Nat) : Int)).map V.int))) ⟨Evl.Ex.new hD, upd_same⟩ (fun i H' _ ⟨e, _⟩ => Or.inl (Or.inl (e _ _ h1))) ?_ ?_⟩
    · rintro i x H' hx ⟨e2, h2⟩
      obtain ⟨t, pr, rfl, hpr, hst⟩ := dp2_get ha hx
      have hm : pr ∈ casc k n := List.mem_of_getElem? hpr
      have hf := falls_mem (casc_falls k n) pr hm
      have hbd := casc_bound k n pr hm
      refine ⟨t, _, rfl, Evl.ex_t e2 hst, rfl, _, _, rfl, _, _, rfl, rfl, rfl, ?_⟩
      refine ⟨_, rfl, _, rfl, _, _, rfl, rfl, _, _, rfl, by omega, by omega, ?_⟩
      refine ⟨_, h2, ?_, e2.mut (p := Dl) hD, ?_⟩
      · rw [List.length_map, List.length_map, List.length_take]
        have : (casc k n).length ≤ 7 := by
          have := falls_len (casc_falls k n)
          omega
        exact small1000 (by omega)
      · rw [upd_same, take_snoc hpr, List.map_append, List.map_append]
        rw [show ((pr.2 : Nat) : Int) - 1 = ((pr.2 - 1 : Nat) : Int) by omega, chz_nat' pr.1 (pr.2 - 1)]
        rfl
    · rintro H' ⟨e2, h2⟩
      rw [hlen, List.take_length] at h2
      refine ⟨Dl, _, rfl, Or.inl (Or.inl h2), ?_⟩
      rw [sumB_nat]
      exact q H' (e1.trans e2)
end
end K25
end
section
set_option Elab.async false
set_option linter.all false
set_option maxRecDepth 100000
set_option maxHeartbeats 4000000
namespace K25
open PySem PySem.Spec PyProof.Rows L2 LB
theorem whole_nat {d : PyData} {lo hi : Int} (h : wholeB d lo hi = true) (h0 : 0 ≤ lo) : ∃ n : Nat, d = .int (n : Nat) ∧ lo ≤ n ∧ (n : Int) ≤ hi := by
  cases d with
  | int i =>
    have h' : (decide (lo ≤ i) && decide (i ≤ hi)) = true := h
    simp only [Bool.and_eq_true, decide_eq_true_eq] at h'
    exact ⟨i.toNat, by rw [Int.toNat_of_nonneg (by omega)], by omega, by omega⟩
  | _ => cases h
section
variable {P : Program} {w : World} {K : PySem.W.Frag} {mg : Str → Option Value} {base : Heap} {C : Addr}
theorem ok_cascade (D : Dn K mg "cascade" s_cascade ["k", "n"]) (T : Bt mg) (f_asked_many : CalX P w K mg base 3 "asked_many" (spAsked K C)) (f_cascade_of : Cal P w K mg base 3 "cascade_of" (spCasc K)) : CalX P w K mg base 5 "cascade" (spCascade K C) := by
  refine calx_of D sc_cascade (fun vs H Q E h => ?_) (fun f cdv A outer s H vs Q E hr h => ?_)
  · obtain ⟨v1, v2, d1, d2, rfl, _⟩ := h
    rfl
  · obtain ⟨v1, v2, d1, d2, rfl, h1, h2, q1, q2, q3⟩ := h
    refine ⟨_, (pss_cons (ps_expr (LB.pe_cE (takes_of rfl rfl rfl rfl) f_asked_many hr (by decide) (by rfl) (pa_cons (pv 0) (pa_cons pe_int (pa_cons (C8.pe_gc (by rfl) T.c_MOST_SIZE) pa_nil)))))
      (pss_cons (ps_expr (LB.pe_cE (takes_of rfl rfl rfl rfl) f_asked_many hr (by decide) (by rfl) (pa_cons (pv 1) (pa_cons pe_int (pa_cons (C8.pe_gc (by rfl) T.c_MOST_SETS) pa_nil)))))
      (pss_one (ps_ret (pe_callTy call_tuple_of (by rfl) T.m_tuple (by decide +kernel) (pa_cons (LB.pe_c f_cascade_of hr (by decide) (by rfl) (pa_cons (pv 0) (pa_cons (pv 1) pa_nil))) pa_nil)))))), ?_⟩
    refine ⟨_, rfl, v1, d1, 1, 7, rfl, h1, fun w1 => ?_, fun w1 => q1 w1⟩
    refine ⟨_, rfl, v2, d2, 0, 1000000, rfl, h2, fun w2 => ?_, fun w2 => q2 w1 w2⟩
    obtain ⟨k, rfl, k1, k7⟩ := whole_nat w1 (by decide)
    obtain ⟨n, rfl, n0, n1⟩ := whole_nat w2 (by decide)
    cases h1
    cases h2
    refine ⟨_, rfl, _, rfl, k, n, rfl, by omega, by omega, by omega, fun p H1 items hp e1 hl ha => ?_⟩
    refine ⟨p, items, rfl, Or.inl ⟨Or.inl (Or.inl hl), fun t ht => ?_⟩⟩
    exact q3 w1 w2 k n rfl rfl t _ items (Evl.fresh_back e1 ht) (e1.trans (Evl.Ex.new ht)) upd_same (ha.up (Evl.Ex.new ht))
theorem ok_shadow (D : Dn K mg "shadow" s_shadow ["k", "n"]) (T : Bt mg) (f_asked_many : CalX P w K mg base 3 "asked_many" (spAsked K C)) (f_shadow_in : Cal P w K mg base 4 "shadow_in" spShadowIn) : CalX P w K mg base 5 "shadow" (spShadow K C) := by
  refine calx_of D sc_shadow (fun vs H Q E h => ?_) (fun f cdv A outer s H vs Q E hr h => ?_)
  · obtain ⟨v1, v2, d1, d2, rfl, _⟩ := h
    rfl
  · obtain ⟨v1, v2, d1, d2, rfl, h1, h2, q1, q2, q3⟩ := h
    refine ⟨_, (pss_cons (ps_expr (LB.pe_cE (takes_of rfl rfl rfl rfl) f_asked_many hr (by decide) (by rfl) (pa_cons (pv 0) (pa_cons pe_int (pa_cons (C8.pe_gc (by rfl) T.c_MOST_SIZE) pa_nil)))))
      (pss_cons (ps_expr (LB.pe_cE (takes_of rfl rfl rfl rfl) f_asked_many hr (by decide) (by rfl) (pa_cons (pv 1) (pa_cons pe_int (pa_cons (C8.pe_gc (by rfl) T.c_MOST_SETS) pa_nil)))))
      (pss_one (ps_ret (LB.pe_c f_shadow_in hr (by decide) (by rfl) (pa_cons (pv 0) (pa_cons (pv 1) pa_nil))))))), ?_⟩
    refine ⟨_, rfl, v1, d1, 1, 7, rfl, h1, fun w1 => ?_, fun w1 => q1 w1⟩
    refine ⟨_, rfl, v2, d2, 0, 1000000, rfl, h2, fun w2 => ?_, fun w2 => q2 w1 w2⟩
    obtain ⟨k, rfl, k1, k7⟩ := whole_nat w1 (by decide)
    obtain ⟨n, rfl, n0, n1⟩ := whole_nat w2 (by decide)
    cases h1
    cases h2
    exact ⟨_, rfl, _, rfl, k, n, rfl, by omega, by omega, by omega, fun H1 e1 => q3 w1 w2 k n rfl rfl H1 e1⟩
end
end K25
end
section
set_option Elab.async false
set_option linter.all false
set_option maxRecDepth 100000
set_option maxHeartbeats 4000000
namespace K25
open PySem PySem.Spec PyProof.Rows L2 LB
local macro_rules | `(tactic| walk_at "rd") => `(tactic| repeat (first | refine ⟨_, rfl, ?_⟩ | refine ⟨_, _, rfl, rfl, ?_⟩ | refine ⟨_, _, rfl, ?_⟩))
/-! ### the law's helpers: the jar -/
def JarV (a b : Int) : Prop := 0 ≤ a ∧ 0 ≤ b ∧ b < 2147483647
def Jar (H : Hp) (j : Addr) : Prop := ∃ a b : Int, H j = some (.lst [.int a, .int b]) ∧ JarV a b
theorem Jar.some {H : Hp} {j : Addr} (h : Jar H j) : H j ≠ none := by
  obtain ⟨a, b, e, _⟩ := h
  rw [e]
  exact fun z => nomatch z
theorem free_back {S : List Addr} {H H' : Hp} {p : Addr} (b : But S H H') (hS : ∀ a ∈ S, H' a ≠ none) (h : H' p = none) : H p = none := by
  cases e : H p with
  | none => rfl
  | some o =>
    exfalso
    by_cases m : p ∈ S
    · exact hS p m h
    · rw [b p o m e] at h
      cases h
theorem Jar.free {H H' : Hp} {j p : Addr} (b : But [j] H H') (J : Jar H' j) (h : H' p = none) : H p = none :=
  free_back b (fun a m => by rw [List.mem_singleton.mp m]; exact J.some) h
def spTake : Sp := fun vs H Q _ => ∃ (j : Addr) (t : Int), vs = [.ref j, .int t] ∧ Jar H j ∧ 1 ≤ t ∧ t < 1073741824 ∧ ∀ (v : Nat) (H' : Hp), (v : Int) < t → Jar H' j → But [j] H H' → Q (.int v) H'
def spPool (K : PySem.W.Frag) : Sp := fun vs H Q _ => ∃ (s : Addr) (ns : List Int) (k : Nat), vs = [.ref s, .int (k : Nat)] ∧ SqL K H s (ns.map V.int) ∧ k ≤ 100 ∧ (k < ns.length ∨ ns = []) ∧
  ∀ (j : Addr) (H' : Hp), H j = none → Evl.Ex H H' → Jar H' j → Q (.ref j) H'
def SqA (K : PySem.W.Frag) (H : Hp) (p : Addr) (xs : List V) : Prop := SqL K H p xs ∨ SqT K H p xs
def spOne (K : PySem.W.Frag) : Sp := fun vs H Q _ => ∃ (j p : Addr) (xs : List V), vs = [.ref j, .ref p] ∧ Jar H j ∧ SqA K (cut [j] H) p xs ∧ 1 ≤ xs.length ∧ xs.length < 1073741824 ∧
  ∀ (i : Nat) (v : V) (H' : Hp), xs[i]? = some v → Jar H' j → But [j] H H' → Q v H'
theorem SqA.up {K : PySem.W.Frag} {H H' : Hp} {p : Addr} {xs : List V} (h : SqA K H p xs) (e : Evl.Ex H H') : SqA K H' p xs := h.elim (fun h => Or.inl (Evl.ex_l e h)) (fun h => Or.inr (Evl.ex_t e h))
section
variable {P : Program} {w : World} {K : PySem.W.Frag} {mg : Str → Option Value} {base : Heap}
theorem ok_take (D : Dn K mg "_law_take" s_law_take ["jar", "top"]) (T : Bt mg) : Cal P w K mg base 1 "_law_take" spTake := by
  refine cal_of D sc_law_take (fun vs H Q E h => ?_) (fun f cdv A outer s H vs Q E hr h => ?_)
  · obtain ⟨j, t, rfl, _⟩ := h
    rfl
  · obtain ⟨j, t, rfl, ⟨a, b, hj, ha, hb, hb2⟩, t1, t2, q⟩ := h
    refine ⟨_, (pss_cons (ps_if (pt_cmpR op_gt (pe_ix ix_list (pv 0) pe_int (fun _ _ => rfl)) pe_int (nomark _)) (pss_cons (ps_set (i := 2) sc_law_take.nd rfl (Or.inl rfl) (pe_op op_mod (pe_callTy call_int1 (by rfl) T.m_int (by decide +kernel) (pa_cons (pe_ix ix_list (pv 0) pe_int (fun _ _ => rfl)) pa_nil)) (pv 1)))
      (pss_cons (ps_asg (pe_op op_fdiv (pe_ix ix_list (pv 0) pe_int (fun _ _ => rfl)) (pv 1)) (pg_sub (pv 0) pe_int set_list))
      (pss_one (ps_ret (pv 2))))) pss_nil)
      (pss_cons (ps_asg (pe_op op_mod (pe_callTy call_int1 (by rfl) T.m_int (by decide +kernel) (pa_cons (pe_op op_add (pe_op op_mul (pe_ix ix_list (pv 0) pe_int (fun _ _ => rfl)) pe_int) pe_int) pa_nil)) pe_int) (pg_sub (pv 0) pe_int set_list))
      (pss_one (ps_ret (pe_op op_mod (pe_callTy call_int1 (by rfl) T.m_int (by decide +kernel) (pa_cons (pe_op op_fdiv (pe_op op_mod (pe_callTy call_int1 (by rfl) T.m_int (by decide +kernel) (pa_cons (pe_op op_mul (pe_ix ix_list (pv 0) pe_int (fun _ _ => rfl)) (pe_ix ix_list (pv 0) pe_int (fun _ _ => rfl))) pa_nil)) pe_int) pe_int) pa_nil)) (pv 1)))))), ?_⟩
    have g0 : atI [V.int a, V.int b] 0 = some (V.int a) := atI_nat (j := 0) rfl
    have S : SqL K H j [V.int a, V.int b] := Or.inl (Or.inl hj)
    refine ⟨_, rfl, j, _, _, _, rfl, rfl, S, g0, _, _, rfl, rfl, _, rfl, iteD (fun c => ?_) (fun c => ?_)⟩
    · -- the digits
      refine ⟨_, rfl, j, _, _, _, rfl, rfl, S, g0, Or.inl ⟨_, rfl, _, rfl, _, _, rfl, rfl, by omega, ?_⟩⟩
      refine ⟨_, rfl, j, _, _, _, rfl, rfl, S, g0, _, rfl, _, _, rfl, rfl, ⟨by omega, t2⟩, ?_⟩
      refine ⟨_, rfl, j, _, _, 0, rfl, rfl, hj, rfl, _, rfl, ?_⟩
      have h1 := Int.emod_nonneg a (show t ≠ 0 by omega)
      have h2 := Int.emod_lt_of_pos a (show 0 < t by omega)
      have e : (a % t) = ((a % t).toNat : Int) := by omega
      show Q (V.int (a % t)) _
      rw [e]
      refine q _ _ (by omega) ⟨_, _, upd_same, Int.ediv_nonneg ha (by omega), hb, hb2⟩ (But.put (by simp))
    · -- the number stirred
      have g1 : atI [V.int a, V.int b] 1 = some (V.int b) := atI_nat (j := 1) rfl
      refine ⟨_, rfl, j, _, _, _, rfl, rfl, S, g1, _, _, rfl, rfl, Or.inr ⟨by decide, by decide⟩, _, _, rfl, rfl, Or.inl ⟨_, rfl, _, _, rfl, rfl, (by show (0 : Int) < 2147483647; decide), ?_⟩⟩
      refine ⟨_, rfl, j, _, _, 1, rfl, rfl, hj, rfl, ?_⟩
      dsimp only
      have b1 := Int.emod_nonneg (b * 39373 + 7) (show (2147483647 : Int) ≠ 0 by decide)
      have b2 := Int.emod_lt_of_pos (b * 39373 + 7) (show (0 : Int) < 2147483647 by decide)
      generalize (b * 39373 + 7) % 2147483647 = b' at b1 b2 ⊢
      have g2 : atI [V.int a, V.int b'] 1 = some (V.int b') := atI_nat (j := 1) rfl
      have S2 : SqL K (upd H j (.lst ([V.int a, V.int b].set 1 (V.int b')))) j [V.int a, V.int b'] := Or.inl (Or.inl upd_same)
      refine ⟨_, rfl, j, _, _, _, rfl, rfl, S2, g2, _, rfl, j, _, _, _, rfl, rfl, S2, g2, _, _, rfl, rfl, Or.inl ⟨by omega, by omega⟩, Or.inl ⟨_, rfl, _, _, rfl, rfl, (by show (0 : Int) < 2147483629; decide), ?_⟩⟩
      refine ⟨_, _, rfl, rfl, ⟨by decide, by decide⟩, Or.inl ⟨_, rfl, _, rfl, _, _, rfl, rfl, by omega, ?_⟩⟩
      dsimp only
      generalize b' * b' % 2147483629 / 32 = c'
      have h1 := Int.emod_nonneg c' (show t ≠ 0 by omega)
      have h2 := Int.emod_lt_of_pos c' (show 0 < t by omega)
      have e : (c' % t) = ((c' % t).toNat : Int) := by omega
      rw [e]
      exact q _ _ (by omega) ⟨a, b', upd_same, ha, b1, b2⟩ (But.put (by simp))
theorem ok_pool (D : Dn K mg "_law_pool" s_law_pool ["script", "k"]) (T : Bt mg) : Cal P w K mg base 1 "_law_pool" (spPool K) := by
  refine cal_of D sc_law_pool (fun vs H Q E h => ?_) (fun f cdv A outer s H vs Q E hr h => ?_)
  · obtain ⟨s, ns, k, rfl, _⟩ := h
    rfl
  · obtain ⟨s, ns, k, rfl, S, hk, hkn, q⟩ := h
    refine ⟨_, (pss_cons (ps_set (i := 2) sc_law_pool.nd rfl (Or.inl rfl) pe_int)
      (Evl.pss_cut (ps_if (pt_cmpR op_lt (pv 1) (pe_callB call_len_seq (by rfl) T.m_len PySem.boot_len (pa_cons (pv 0) pa_nil)) (nomark _)) (pss_one (ps_set (i := 2) sc_law_pool.nd rfl (Or.inl rfl) (pe_ix ix_list (pv 0) (pv 1) (fun _ _ => rfl)))) (pss_one (ps_if (pt_cmpR (op_neD hr.units) (pv 0) (pe_lst pa_nil) (nomark _)) (pss_one (ps_set (i := 2) sc_law_pool.nd rfl (Or.inl rfl) (pe_ix ix_list (pv 0) pe_int (fun _ _ => rfl)))) pss_nil)))
      (pss_cons (ps_set (i := 3) sc_law_pool.nd rfl (Or.inl rfl) (pe_callB (call_max2 rfl) (by rfl) T.m_max (by decide +kernel) (pa_cons (pe_callTy call_int1 (by rfl) T.m_int (by decide +kernel) (pa_cons (pv 2) pa_nil)) (pa_cons (pe_callTy call_int1 (by rfl) T.m_int (by decide +kernel) (pa_cons (pe_op op_sub (pe_un un_neg pe_int) (pv 2)) pa_nil)) pa_nil))))
      (pss_cons (ps_set (i := 4) sc_law_pool.nd rfl (Or.inl rfl) (pe_op op_mod (pe_callTy call_int1 (by rfl) T.m_int (by decide +kernel) (pa_cons (pe_op op_mul (pe_op op_add (pe_op op_add (pe_op op_add (pe_op op_mod (pe_callTy call_int1 (by rfl) T.m_int (by decide +kernel) (pa_cons (pv 3) pa_nil)) pe_int) (pe_op op_mul (pe_op op_mul pe_int (pv 1)) (pv 1))) (pe_op op_mul pe_int (pv 1))) pe_int) pe_int) pa_nil)) pe_int))
      (pss_one (ps_ret (pe_lst (pa_cons (pe_op op_mul (pv 3) (pe_callTy call_int1 (by rfl) T.m_int (by decide +kernel) (pa_cons (pe_and (pe_cmpR op_ge (pv 3) (pe_op op_pow pe_int pe_int) (nomark _)) (pe_one (pe_cmpR op_lt (pv 1) (pe_callB call_len_seq (by rfl) T.m_len PySem.boot_len (pa_cons (pv 0) pa_nil)) (nomark _)))) pa_nil))) (pa_cons (pv 4) pa_nil))))))))), ?_⟩
    refine ⟨fun σ H' => ∃ c : Int, σ = [some (.ref s), some (.int (k : Nat)), some (.int c), none, none] ∧ Evl.Ex H H', ?_, ?_⟩
    · refine ⟨_, rfl, _, rfl, s, _, rfl, Or.inl S, _, _, rfl, rfl, _, rfl, iteD (fun c => ?_) (fun c => ?_)⟩
      · rw [List.length_map] at c
        have hk' : k < ns.length := by omega
        refine ⟨_, rfl, _, rfl, s, _, _, .int ns[k], rfl, rfl, S, atI_nat (by rw [List.getElem?_map, List.getElem?_eq_getElem hk']; rfl), ns[k], rfl, Evl.Ex.refl H⟩
      · rw [List.length_map] at c
        have e : ns = [] := by
          rcases hkn with h | h
          · omega
          · exact h
        subst e
        refine ⟨_, rfl, Nat.zero_le _, fun p hp => ⟨.list [], .list [], .lst (Evl.ex_l (Evl.Ex.new hp) S) .nil, .lst (Or.inl (Or.inl upd_same)) .nil, by decide, by decide, _, rfl, ?_⟩⟩
        exact ⟨0, rfl, Evl.Ex.new hp⟩
    · rintro σ H' ⟨c, rfl, e1⟩
      have S1 := Evl.ex_l e1 S
      refine ⟨_, rfl, Or.inl ⟨_, rfl, _, rfl, ?_⟩⟩
      walk_at "rd"
      refine Or.inl ⟨_, rfl, _, _, rfl, ?_⟩
      dsimp only
      generalize hbig : (if -1 - c > c then -1 - c else c) = big
      have b0 : 0 ≤ big := by
        split at hbig <;> omega
      refine ⟨_, rfl, Or.inl ⟨_, rfl, _, _, rfl, rfl, (by show (0 : Int) < 2147483629; decide), ?_⟩⟩
      refine ⟨_, rfl, _, _, rfl, rfl, Or.inl ⟨by decide, by decide⟩, _, rfl, _, _, rfl, rfl, Or.inr ⟨by omega, by omega⟩, _, _, rfl, rfl, _, rfl, _, _, rfl, rfl, Or.inl ⟨by decide, by decide⟩, _, _, rfl, rfl, _, _, rfl, rfl, _, _, rfl, rfl, Or.inr ⟨by decide, by decide⟩, Or.inl ⟨_, rfl, _, _, rfl, rfl, (by show (0 : Int) < 2147483647; decide), ?_⟩⟩
      dsimp only
      generalize hst : (big % 2147483629 + 7919 * (k : Int) * (k : Int) + 31 * (k : Int) + 17) * 48271 = st
      have s1 := Int.emod_nonneg st (show (2147483647 : Int) ≠ 0 by decide)
      have s2 := Int.emod_lt_of_pos st (show (0 : Int) < 2147483647 by decide)
      refine ⟨_, rfl, _, rfl, _, _, rfl, rfl, ⟨by decide, by decide, by decide⟩, _, _, rfl, rfl, _, rfl, ?_⟩
      have fin : ∀ f : Int, 0 ≤ f → f ≤ 1 → (∃ i j_1, V.int big = V.int i ∧ V.int f = V.int j_1 ∧ CMul i j_1 ∧ (tCons (tVar 4) tNil) [some (.ref s), some (.int (k : Nat)), some (.int c), some (.int big), some (.int (st % 2147483647))] H' fun xs H1 => (V.int (i * j_1) :: xs).length ≤ sizeLine ∧ ∀ p, H1 p = none → Q (.ref p) (upd H1 p (.lst (V.int (i * j_1) :: xs)))) := fun f f0 f1 => by
        refine ⟨big, f, rfl, rfl, Or.inr ⟨by omega, by omega⟩, _, rfl, (by show 2 ≤ sizeLine; decide), fun p hp => ?_⟩
        refine q p _ (Evl.fresh_back e1 hp) (e1.trans (Evl.Ex.new hp)) ⟨_, _, upd_same, Int.mul_nonneg b0 f0, s1, s2⟩
      refine iteD (fun c0 => ?_) (fun c0 => ?_)
      · refine ⟨_, rfl, _, rfl, s, _, rfl, Or.inl S1, _, _, rfl, rfl, Or.inr ⟨_, rfl, ?_⟩⟩
        refine fin _ ?_ ?_
        · split <;> omega
        · split <;> omega
      · exact Or.inr ⟨_, rfl, fin 0 (by omega) (by omega)⟩
theorem ok_one (D : Dn K mg "_law_one" s_law_one ["jar", "things"]) (T : Bt mg) (f_law_take : Cal P w K mg base 1 "_law_take" spTake) : Cal P w K mg base 2 "_law_one" (spOne K) := by
  refine cal_of D sc_law_one (fun vs H Q E h => ?_) (fun f cdv A outer s H vs Q E hr h => ?_)
  · obtain ⟨s, ns, k, rfl, _⟩ := h
    rfl
  · obtain ⟨j, p, xs, rfl, J, S, l1, l2, q⟩ := h
    refine ⟨_, (pss_one (ps_ret (pe_ix ix_seq (pv 1) (LB.pe_c f_law_take hr (by decide) (by rfl) (pa_cons (pv 0) (pa_cons (pe_callB call_len_seq (by rfl) T.m_len PySem.boot_len (pa_cons (pv 1) pa_nil)) pa_nil))) (fun _ _ => rfl)))), ?_⟩
    refine ⟨_, rfl, _, rfl, _, rfl, p, xs, rfl, S.up ex_cut, j, (xs.length : Nat), rfl, J, by omega, by omega, fun v H' hv J' b => ?_⟩
    have hv' : v < xs.length := by omega
    have hx : xs[v]? = some xs[v] := List.getElem?_eq_getElem hv'
    have S' : SqA K H' p xs := (S.up b.cut).up ex_cut
    rcases S' with S' | S'
    · exact Or.inl ⟨p, xs, _, _, rfl, rfl, S', atI_nat hx, q v _ H' hx J' b⟩
    · exact Or.inr (Or.inl ⟨p, xs, _, _, rfl, rfl, S', atI_nat hx, q v _ H' hx J' b⟩)
end
end K25
end
section
set_option Elab.async false
set_option linter.all false
set_option maxRecDepth 100000
set_option maxHeartbeats 4000000
namespace K25
open PySem PySem.Spec PyProof.Rows L2 LB
local macro_rules | `(tactic| walk_at "rd") => `(tactic| repeat (first | refine ⟨_, rfl, ?_⟩ | refine ⟨_, _, rfl, rfl, ?_⟩ | refine ⟨_, _, rfl, ?_⟩))
def spLots (K : PySem.W.Frag) : Sp := fun vs H Q _ => ∃ (a : Addr) (xs : List V), vs = [.ref a] ∧ SqL K H a xs ∧ xs.length ≤ 12 ∧
  ∀ (p : Addr) (H' : Hp) (items : List V), H p = none → Evl.Ex H H' → H' p = some (.lst items) → TupAll K H' items (lots xs) → Q (.ref p) H'
def oddW (lo hi : Int) : List PyData := [.int (lo - 1), .int (hi + 1), .int (-1 - hi), .bool true, .bool false, .none, .str "2", .tuple [.int 2], .tuple [], .int (10 ^ 20), .int (-(10 ^ 20))]
def spOdd (K : PySem.W.Frag) : Sp := fun vs H Q _ => ∃ (j : Addr) (lo hi : Int), vs = [.ref j, .int lo, .int hi] ∧ Jar H j ∧
  ∀ (v : V) (d : PyData) (H' : Hp), d ∈ oddW lo hi → Jar H' j → But [j] H H' → Dp K (cut [j] H') v d → Q v H'
def isW : PyData → Bool
  | .int _ => true
  | _ => false
def spIsW (K : PySem.W.Frag) : Sp := fun vs H Q _ => ∃ (v : V) (d : PyData), vs = [v] ∧ Dp K H v d ∧ Q (.bl (isW d)) H
section
variable {P : Program} {w : World} {K : PySem.W.Frag} {mg : Str → Option Value} {base : Heap}
theorem ok_lots_of (D : Dn K mg "_law_lots_of" s_law_lots_of ["some"]) (T : Bt mg) : Cal P w K mg base 1 "_law_lots_of" (spLots K) := by
  refine cal_of D sc_law_lots_of (fun vs H Q E h => ?_) (fun f cdv A outer s H vs Q E hr h => ?_)
  · obtain ⟨a, xs, rfl, _⟩ := h
    rfl
  · obtain ⟨a, xs, rfl, S, hl, q⟩ := h
    refine ⟨_, (pss_cons (ps_set (i := 1) sc_law_lots_of.nd rfl (Or.inl rfl) (pe_lst (pa_cons (pe_tup pa_nil) pa_nil)))
      (pss_cons (ps_for PassesOwn.never rfl (pi_list (pv 0)) (pg_name (i := 2) sc_law_lots_of.nd rfl (Or.inr rfl)) (pss_one (ps_set (i := 1) sc_law_lots_of.nd rfl (Or.inl rfl) (pe_op op_cat (pv 1) (pe_lc (own := [("lot", 3)]) rfl sc_law_lots_of.nd (pi_list (pv 1)) (blkOk_by (N := ["some", "found", "one", "lot"]) (sc := defScope s_law_lots_of) (by decide +kernel)) (fun _ _ _ _ _ => (pg_name (i := 3) sc_law_lots_of.nd rfl (Or.inl rfl))) (fun _ _ _ _ _ => pts_nil) (fun _ _ _ _ _ => (pe_op (opK_cat (K := K) rfl) (pv 3) (pe_tup (pa_cons (pv 2) pa_nil)))))))))
      (pss_one (ps_ret (pv 1))))), ?_⟩
    refine ⟨Nat.zero_le _, fun t ht => ⟨(by show 1 ≤ sizeLine; decide), fun p hp => ?_⟩⟩
    have ntp : t ≠ p := fun z => by rw [← z, upd_same] at hp; cases hp
    have e0 : Evl.Ex H (upd (upd H t (.tup [])) p (.lst [.ref t])) := (Evl.Ex.new ht).trans (Evl.Ex.new hp)
    refine ⟨_, rfl, a, rfl, ⟨xs, Evl.ex_l e0 S⟩, for_list (K := K) (a := a) (xs := xs) (fun i σ H' => ∃ (p : Addr) (items : List V) (v2 : Option V), σ = [some (V.ref a), some (V.ref p), v2, none] ∧ Evl.Ex H H' ∧ H p = none ∧ H' p = some (.lst items) ∧ TupAll K H' items (lots (xs.take i)))
      ⟨p, _, none, rfl, e0, Evl.fresh_back (Evl.Ex.new ht) hp, upd_same, .cons ⟨t, rfl, Or.inl (Or.inl (by rw [upd_ne ntp, upd_same]))⟩ .nil⟩ (fun i σ H' _ ⟨_, _, _, _, e, _⟩ => Evl.ex_l e S) ?_ ?_⟩
    · rintro i x σ H' hx ⟨p, items, v2, rfl, e, hpn, hp, ha⟩
      have hlen := ha.len
      rw [lots_len] at hlen
      have hi : i < xs.length := (List.getElem?_eq_some_iff.mp hx).1
      have hsmall : items.length ≤ 2048 := by
        rw [hlen, List.length_take]
        have : 2 ^ min i xs.length ≤ 2 ^ 11 := Nat.pow_le_pow_right (by decide) (by omega)
        exact this
      refine ⟨_, rfl, _, rfl, p, rfl, ⟨items, Or.inl (Or.inl hp)⟩, fun Dl hD => lc_list (K := K) (a := p) (xs := items) (fun n H2 => But [Dl] H' H2 ∧ ∃ acc, H2 Dl = some (.lst acc) ∧ TupAll K (cut [Dl] H2) acc (((lots (xs.take i)).take n).map (· ++ [x]))) ⟨But.new hD, [], upd_same, .nil⟩ (fun n H2 _ ⟨b, _⟩ => Or.inl (Or.inl (b.ex (fun z hz => by rw [List.mem_singleton.mp hz]; exact hD) _ _ hp))) ?_ ?_⟩
      · rintro n y H2 hy ⟨b, acc, h2, hacc⟩
        have eD : ∀ z ∈ [Dl], H' z = none := fun z hz => by rw [List.mem_singleton.mp hz]; exact hD
        obtain ⟨t, ys, rfl, hys, hst⟩ := ha.get hy
        have hst2 : SqT K H2 t ys := Evl.ex_t (b.ex eD) hst
        have hyl : ys.length ≤ 12 := by
          have := lots_size ys (List.mem_of_getElem? hys)
          rw [List.length_take] at this
          omega
        refine ⟨rfl, _, rfl, _, rfl, (by show 1 ≤ sizeLine; decide), fun u hu => ?_⟩
        have nuD : u ≠ Dl := fun z => by rw [z, h2] at hu; cases hu
        refine cat_ok (Evl.ex_t (Evl.Ex.new hu) hst2) (Or.inl (Or.inl upd_same)) (by show ys.length + 1 ≤ 100000; omega) fun c H3 e3 f3 hc => ?_
        have e23 : Evl.Ex H2 H3 := (Evl.Ex.new hu).trans e3
        have h3 : H3 Dl = some (.lst acc) := e23 _ _ h2
        refine ⟨acc, h3, ?_, ?_, acc ++ [.ref c], upd_same, ?_⟩
        · rw [hacc.len, List.length_map, List.length_take, ← ha.len]
          exact Nat.lt_of_le_of_lt (Nat.min_le_right _ _) (Evl.sz_lt (by omega))
        · exact b.trans ((But.of e23).trans (But.put (by simp)))
        · have e4 : Evl.Ex (cut [Dl] H2) (cut [Dl] (upd H3 Dl (.lst (acc ++ [.ref c])))) := But.cut ((But.of e23).trans (But.put (by simp)))
          rw [take_snoc hys, List.map_append]
          refine (hacc.up e4).app (.cons ⟨c, rfl, ?_⟩ .nil)
          exact Evl.ex_t (But.cut (But.put (by simp))) (sqt_out (S := [Dl]) hc fun z hz => by rw [List.mem_singleton.mp hz]; exact ⟨_, h3⟩)
      · rintro H2 ⟨b, acc, h2, hacc⟩
        have eD : ∀ z ∈ [Dl], H' z = none := fun z hz => by rw [List.mem_singleton.mp hz]; exact hD
        have e2 : Evl.Ex H' H2 := b.ex eD
        have hD' : p ≠ Dl := ne_of_none hp hD
        refine ⟨p, Dl, items, acc, rfl, rfl, e2 _ _ hp, h2, ?_, fun r hr2 => ?_⟩
        · rw [hacc.len, List.length_map, List.length_take, ha.len, Nat.min_self, ← ha.len]
          exact Evl.sz_of (by omega)
        · have er : Evl.Ex H2 (upd H2 r (.lst (items ++ acc))) := Evl.Ex.new hr2
          refine ⟨r, _, some x, rfl, (e.trans e2).trans er, Evl.fresh_back e (Evl.fresh_back e2 hr2), upd_same, ?_⟩
          rw [take_snoc hx, lots_snoc]
          refine (ha.up (e2.trans er)).app ?_
          have hacc' := (hacc.up ex_cut).up er
          rw [ha.len, List.take_length] at hacc'
          exact hacc'
    · rintro σ H' ⟨p, items, v2, rfl, e, hpn, hp, ha⟩
      rw [List.take_length] at ha
      exact ⟨_, rfl, q p H' items hpn e hp ha⟩
theorem ok_odd_whole (D : Dn K mg "_law_odd_whole" s_law_odd_whole ["jar", "low", "high"]) (f_law_one : Cal P w K mg base 2 "_law_one" (spOne K)) : Cal P w K mg base 3 "_law_odd_whole" (spOdd K) := by
  refine cal_of D sc_law_odd_whole (fun vs H Q E h => ?_) (fun f cdv A outer s H vs Q E hr h => ?_)
  · obtain ⟨a, lo, hi, rfl, _⟩ := h
    rfl
  · obtain ⟨j, lo, hi, rfl, J, q⟩ := h
    refine ⟨_, (pss_one (ps_ret (LB.pe_c f_law_one hr (by decide) (by rfl) (pa_cons (pv 0) (pa_cons (pe_lst (pa_cons (pe_op op_sub (pv 1) pe_int) (pa_cons (pe_op op_add (pv 2) pe_int) (pa_cons (pe_op op_sub (pe_un un_neg pe_int) (pv 2)) (pa_cons pe_bl (pa_cons pe_bl (pa_cons pe_non (pa_cons pe_str (pa_cons (pe_tup (pa_cons pe_int pa_nil)) (pa_cons (pe_tup pa_nil) (pa_cons (pe_op op_pow pe_int pe_int) (pa_cons (pe_un un_neg (pe_op op_pow pe_int pe_int)) pa_nil)))))))))))) pa_nil))))), ?_⟩
    refine ⟨_, rfl, ?_⟩
    refine ⟨_, rfl, _, _, rfl, rfl, _, rfl, _, _, rfl, rfl, _, rfl, _, rfl, _, _, rfl, rfl, ?_⟩
    refine ⟨(by show 1 ≤ sizeLine; decide), fun t1 h1 => ⟨Nat.zero_le _, fun t2 h2 => ?_⟩⟩
    refine ⟨_, _, rfl, rfl, ⟨by decide, by decide, by decide⟩, _, _, rfl, rfl, ⟨by decide, by decide, by decide⟩, _, rfl, ?_⟩
    refine ⟨(by show 11 ≤ sizeLine; decide), fun p hp => ?_⟩
    have e1 : Evl.Ex H (upd H t1 (.tup [.int 2])) := Evl.Ex.new h1
    have e2 := Evl.Ex.new (o := .tup []) h2
    have nj : ∀ {H' : Hp} {q : Addr}, Evl.Ex H H' → H' q = none → q ≠ j := fun {H' q} e hq z => by
      obtain ⟨a, b, hj, _⟩ := J
      rw [z, e _ _ hj] at hq
      cases hq
    have n1 := nj (Evl.Ex.refl H) h1
    have n2 := nj e1 h2
    have n3 := nj (e1.trans e2) hp
    have J' : Jar (upd (upd (upd H t1 (.tup [.int 2])) t2 (.tup [])) p (.lst [.int (lo - 1), .int (hi + 1), .int (-1 - hi), .bl true, .bl false, .non, .str "2", .ref t1, .ref t2, .int (10 ^ 20), .int (-(10 ^ 20))])) j := by
      obtain ⟨a, b, hj, hJ⟩ := J
      exact ⟨a, b, by rw [upd_ne n3.symm, upd_ne n2.symm, upd_ne n1.symm]; exact hj, hJ⟩
    refine ⟨j, p, _, rfl, J', Or.inl (Or.inl (Or.inl (by rw [cut_out (by simpa using n3), upd_same]))), (by show 1 ≤ 11; decide), (by show 11 < 1073741824; decide), fun i v H' hv J2 b => ?_⟩
    have hd : DpAll K (cut [j] (upd (upd (upd H t1 (.tup [.int 2])) t2 (.tup [])) p (.lst [.int (lo - 1), .int (hi + 1), .int (-1 - hi), .bl true, .bl false, .non, .str "2", .ref t1, .ref t2, .int (10 ^ 20), .int (-(10 ^ 20))])))
        [.int (lo - 1), .int (hi + 1), .int (-1 - hi), .bl true, .bl false, .non, .str "2", .ref t1, .ref t2, .int (10 ^ 20), .int (-(10 ^ 20))] (oddW lo hi) := by
      have n12 : t1 ≠ t2 := fun z => by rw [← z, upd_same] at h2; cases h2
      have n13 : t1 ≠ p := fun z => by rw [← z, upd_ne n12, upd_same] at hp; cases hp
      have n23 : t2 ≠ p := fun z => by rw [← z, upd_same] at hp; cases hp
      refine .cons (.int _) (.cons (.int _) (.cons (.int _) (.cons (.bl _) (.cons (.bl _) (.cons .non (.cons (.str _) (.cons (.tup (Or.inl (Or.inl ?_)) (.cons (.int 2) .nil)) (.cons (.tup (Or.inl (Or.inl ?_)) .nil) (.cons (.int _) (.cons (.int _) .nil))))))))))
      · rw [cut_out (by simpa using n1), upd_ne n13, upd_ne n12, upd_same]
      · rw [cut_out (by simpa using n2), upd_ne n23, upd_same]
    obtain ⟨d, g1, g2⟩ := hd.get hv
    refine q v d H' (List.mem_of_getElem? g1) J2 (fun a o ha ho => b a o ha ?_) (g2.up b.cut)
    rw [upd_ne (fun z => ?_), upd_ne (fun z => ?_), upd_ne (fun z => ?_)]
    · exact ho
    · rw [z, h1] at ho; cases ho
    · rw [z] at ho; rw [e1 _ _ ho] at h2; cases h2
    · rw [z] at ho; rw [e2 _ _ (e1 _ _ ho)] at hp; cases hp
theorem ok_is_whole (D : Dn K mg "_law_is_whole" s_law_is_whole ["thing"]) (T : Bt mg) : Cal P w K mg base 1 "_law_is_whole" (spIsW K) := by
  refine cal_of D sc_law_is_whole (fun vs H Q E h => ?_) (fun f cdv A outer s H vs Q E hr h => ?_)
  · obtain ⟨v, d, rfl, _⟩ := h
    rfl
  · obtain ⟨v, d, rfl, hd, q⟩ := h
    refine ⟨_, (pss_one (ps_ret (pe_and (pe_callB call_isi (by rfl) T.m_isinstance (by decide +kernel) (pa_cons (pv 0) (pa_cons (pe_bltn (v := .ty "int") (u := .type "int") (by rfl) T.m_int (by decide +kernel) rfl) pa_nil))) (pe_one (pe_not (pe_callB call_isi (by rfl) T.m_isinstance (by decide +kernel) (pa_cons (pv 0) (pa_cons (pe_bltn (v := .ty "bool") (u := .type "bool") (by rfl) T.m_bool (by decide +kernel) rfl) pa_nil)))))))), ?_⟩
    refine ⟨_, rfl, v, .ty "int", _, _, _, rfl, .ty "int", dp_ty hd, kit_int hd, _, rfl, ?_⟩
    cases hd with
    | int i => exact iteT ⟨_, rfl, _, .ty "bool", _, _, _, rfl, .ty "bool", dp_ty (Dp.int i), kit_bool (Dp.int (H := H) (K := K) i), _, rfl, q⟩
    | bl b => exact iteT ⟨_, rfl, _, .ty "bool", _, _, _, rfl, .ty "bool", dp_ty (Dp.bl b), kit_bool (Dp.bl (H := H) (K := K) b), _, rfl, q⟩
    | non => exact iteF q
    | str x => exact iteF q
    | lst _ _ => exact iteF q
    | tup _ _ => exact iteF q
end
end K25
end
section
set_option Elab.async false
set_option linter.all false
set_option maxRecDepth 100000
set_option maxHeartbeats 4000000
namespace K25
open PySem PySem.Spec PyProof.Rows L2 LB
/-- data of so many floors, without dicts -/
def fits : Nat → PyData → Bool
  | 0, _ => false
  | n + 1, .list ds => decide (ds.length ≤ 100000) && ds.all (fits n)
  | n + 1, .tuple ds => decide (ds.length ≤ 100000) && ds.all (fits n)
  | _ + 1, .dict _ => false
  | _ + 1, _ => true
def spLike (K : PySem.W.Frag) (n : Nat) : Sp := fun vs H Q _ => ∃ (v1 v2 : V) (d : PyData), vs = [v1, v2] ∧ Dp K H v1 d ∧ Dp K H v2 d ∧ fits n d = true ∧ ∀ H', Evl.Ex H H' → Q (.bl true) H'
section
variable {P : Program} {w : World} {K : PySem.W.Frag} {mg : Str → Option Value} {base : Heap}
theorem ok_like0 (D : Dn K mg "_law_like" s_law_like ["told", "owed"]) : Cal P w K mg base 2 "_law_like" (spLike K 0) := by
  refine cal_of D sc_law_like (fun vs H Q E h => ?_) (fun f cdv A outer s H vs Q E hr h => ?_)
  · obtain ⟨v1, v2, d, rfl, _⟩ := h
    rfl
  · obtain ⟨v1, v2, d, rfl, _, _, h, _⟩ := h
    cases d <;> cases h
theorem ok_like_succ {n : Nat} (D : Dn K mg "_law_like" s_law_like ["told", "owed"]) (T : Bt mg) (f_law_is_whole : Cal P w K mg base 1 "_law_is_whole" (spIsW K)) (f_law_like : Cal P w K mg base (n + 2) "_law_like" (spLike K n)) :
    Cal P w K mg base (n + 3) "_law_like" (spLike K (n + 1)) := by
  refine cal_of D sc_law_like (fun vs H Q E h => ?_) (fun f cdv A outer s H vs Q E hr h => ?_)
  · obtain ⟨v1, v2, d, rfl, _⟩ := h
    rfl
  · obtain ⟨v1, v2, d, rfl, h1, h2, hf, q⟩ := h
    refine ⟨_, (pss_cons (ps_if (pt_cmp (pc_isN (pv 1)) rfl) (pss_one (ps_ret (pe_cmp (pc_isN (pv 0)) rfl))) pss_nil)
      (pss_cons (ps_if (pt_val (pe_callB call_isi (by rfl) T.m_isinstance (by decide +kernel) (pa_cons (pv 1) (pa_cons (pe_bltn (v := .ty "bool") (u := .type "bool") (by rfl) T.m_bool (by decide +kernel) rfl) pa_nil)))) (pss_one (ps_ret (pe_ifExp (pt_val (pv 1)) (pe_cmpR op_is_bl (pv 0) pe_bl (nomark _)) (pe_cmpR op_is_bl (pv 0) pe_bl (nomark _))))) pss_nil)
      (pss_cons (ps_if (pt_val (pe_callB call_isi (by rfl) T.m_isinstance (by decide +kernel) (pa_cons (pv 1) (pa_cons (pe_bltn (v := .ty "int") (u := .type "int") (by rfl) T.m_int (by decide +kernel) rfl) pa_nil)))) (pss_one (ps_ret (pe_and (LB.pe_c f_law_is_whole hr (by omega) (by rfl) (pa_cons (pv 0) pa_nil)) (pe_one (pe_cmpR op_eq (pv 0) (pv 1) (nomark _)))))) pss_nil)
      (pss_cons (ps_if (pt_val (pe_callB call_isi (by rfl) T.m_isinstance (by decide +kernel) (pa_cons (pv 1) (pa_cons (pe_bltn (v := .ty "str") (u := .type "str") (by rfl) T.m_str (by decide +kernel) rfl) pa_nil)))) (pss_one (ps_ret (pe_and (pe_callB call_isi (by rfl) T.m_isinstance (by decide +kernel) (pa_cons (pv 0) (pa_cons (pe_bltn (v := .ty "str") (u := .type "str") (by rfl) T.m_str (by decide +kernel) rfl) pa_nil))) (pe_one (pe_cmpR op_eq (pv 0) (pv 1) (nomark _)))))) pss_nil)
      (pss_cons (ps_if (pt_val (pe_callB call_isi (by rfl) T.m_isinstance (by decide +kernel) (pa_cons (pv 1) (pa_cons (pe_bltn (v := .ty "dict") (u := .type "dict") (by rfl) T.m_dict (by decide +kernel) rfl) pa_nil)))) (pss_cons ps_never (pss_one ps_never)) pss_nil)
      (pss_cons (ps_if (PW.pt (pw_and (pt_not (pt_val (pe_callB call_isi (by rfl) T.m_isinstance (by decide +kernel) (pa_cons (pv 1) (pa_cons (pe_bltn (v := .ty "tuple") (u := .type "tuple") (by rfl) T.m_tuple (by decide +kernel) rfl) pa_nil))))) (pw_and1 (pt_not (pt_val (pe_callB call_isi (by rfl) T.m_isinstance (by decide +kernel) (pa_cons (pv 1) (pa_cons (pe_bltn (v := .ty "list") (u := .type "list") (by rfl) T.m_list (by decide +kernel) rfl) pa_nil)))))))) (pss_one ps_never) pss_nil)
      (pss_cons (ps_if (pt_not (LB.pt_ifExp (pt_val (pe_callB call_isi (by rfl) T.m_isinstance (by decide +kernel) (pa_cons (pv 1) (pa_cons (pe_bltn (v := .ty "tuple") (u := .type "tuple") (by rfl) T.m_tuple (by decide +kernel) rfl) pa_nil)))) (pt_val (pe_callB call_isi (by rfl) T.m_isinstance (by decide +kernel) (pa_cons (pv 0) (pa_cons (pe_bltn (v := .ty "tuple") (u := .type "tuple") (by rfl) T.m_tuple (by decide +kernel) rfl) pa_nil)))) (pt_val (pe_callB call_isi (by rfl) T.m_isinstance (by decide +kernel) (pa_cons (pv 0) (pa_cons (pe_bltn (v := .ty "list") (u := .type "list") (by rfl) T.m_list (by decide +kernel) rfl) pa_nil)))))) (pss_one (ps_ret pe_bl)) pss_nil)
      (pss_one (ps_ret (pe_and (pe_cmpR op_eq (pe_callB call_len_seq (by rfl) T.m_len PySem.boot_len (pa_cons (pv 0) pa_nil)) (pe_callB call_len_seq (by rfl) T.m_len PySem.boot_len (pa_cons (pv 1) pa_nil)) (nomark _)) (pe_one (pe_cmpR (op_eqD hr.units) (pe_lc (own := [("at", 3)]) rfl sc_law_like.nd (pi_range1 (by rfl) T.m_range (pa_cons (pe_callB call_len_seq (by rfl) T.m_len PySem.boot_len (pa_cons (pv 1) pa_nil)) pa_nil)) (blkOk_by (N := ["told", "owed", "key", "at"]) (sc := defScope s_law_like) (by decide +kernel)) (fun _ _ _ _ _ => (pg_name (i := 3) sc_law_like.nd rfl (Or.inl rfl))) (fun _ _ _ _ _ => (pts_one (pt_not (pt_val (LB.pe_c f_law_like hr (by omega) (by rfl) (pa_cons (pe_ix (ixK_seq (K := K) rfl) (pv 0) (pv 3) (fun _ _ => rfl)) (pa_cons (pe_ix (ixK_seq (K := K) rfl) (pv 1) (pv 3) (fun _ _ => rfl)) pa_nil))))))) (fun _ _ _ _ _ => (pv 3))) (pe_lst pa_nil) (nomark _))))))))))))), ?_⟩
    cases h2 with
    | non =>
      cases h1
      exact ⟨_, rfl, _, rfl, iteT ⟨_, rfl, q H (Evl.Ex.refl H)⟩⟩
    | bl b =>
      cases h1
      refine ⟨_, rfl, _, rfl, iteF ?_⟩
      refine ⟨_, rfl, _, .ty "bool", _, _, _, rfl, .ty "bool", dp_ty (Dp.bl b), kit_bool (Dp.bl (H := H) (K := K) b), _, rfl, iteT ?_⟩
      refine ⟨_, rfl, _, rfl, ?_⟩
      cases b with
      | true => exact iteT ⟨_, rfl, _, _, rfl, rfl, q H (Evl.Ex.refl H)⟩
      | false => exact iteF ⟨_, rfl, _, _, rfl, rfl, q H (Evl.Ex.refl H)⟩
    | int i =>
      cases h1
      refine ⟨_, rfl, _, rfl, iteF ?_⟩
      refine ⟨_, rfl, _, .ty "bool", _, _, _, rfl, .ty "bool", dp_ty (Dp.int i), kit_bool (Dp.int (H := H) (K := K) i), _, rfl, iteF ?_⟩
      refine ⟨_, rfl, _, .ty "int", _, _, _, rfl, .ty "int", dp_ty (Dp.int i), kit_int (Dp.int (H := H) (K := K) i), _, rfl, iteT ?_⟩
      refine ⟨_, rfl, _, _, rfl, Dp.int i, _, rfl, iteT ⟨_, rfl, _, rfl, rfl, ?_⟩⟩
      rw [decide_eq_true rfl]
      exact q H (Evl.Ex.refl H)
    | str x =>
      cases h1
      refine ⟨_, rfl, _, rfl, iteF ?_⟩
      refine ⟨_, rfl, _, .ty "bool", _, _, _, rfl, .ty "bool", dp_ty (Dp.str x), kit_bool (Dp.str (H := H) (K := K) x), _, rfl, iteF ?_⟩
      refine ⟨_, rfl, _, .ty "int", _, _, _, rfl, .ty "int", dp_ty (Dp.str x), kit_int (Dp.str (H := H) (K := K) x), _, rfl, iteF ?_⟩
      refine ⟨_, rfl, _, .ty "str", _, _, _, rfl, .ty "str", dp_ty (Dp.str x), kit_str (Dp.str (H := H) (K := K) x), _, rfl, iteT ?_⟩
      refine ⟨_, rfl, _, .ty "str", _, _, _, rfl, .ty "str", dp_ty (Dp.str x), kit_str (Dp.str (H := H) (K := K) x), _, rfl, iteT ⟨_, rfl, _, rfl, rfl, ?_⟩⟩
      rw [decide_eq_true rfl]
      exact q H (Evl.Ex.refl H)
    | @lst a2 xs2 ds s2 d2 =>
      cases h1 with
      | @lst a1 xs1 _ s1 d1 =>
      have g2 : Dp K H (.ref a2) (.list ds) := .lst s2 d2
      have g1 : Dp K H (.ref a1) (.list ds) := .lst s1 d1
      refine ⟨_, rfl, _, rfl, iteF ?_⟩
      refine ⟨_, rfl, _, .ty "bool", _, _, _, rfl, .ty "bool", dp_ty g2, kit_bool g2, _, rfl, iteF ?_⟩
      refine ⟨_, rfl, _, .ty "int", _, _, _, rfl, .ty "int", dp_ty g2, kit_int g2, _, rfl, iteF ?_⟩
      refine ⟨_, rfl, _, .ty "str", _, _, _, rfl, .ty "str", dp_ty g2, kit_str g2, _, rfl, iteF ?_⟩
      refine ⟨_, rfl, _, .ty "dict", _, _, _, rfl, .ty "dict", dp_ty g2, kit_dict g2, _, rfl, iteF ?_⟩
      refine ⟨_, rfl, _, .ty "tuple", _, _, _, rfl, .ty "tuple", dp_ty g2, kit_tup g2, _, rfl, iteT ?_⟩
      refine ⟨_, rfl, _, .ty "list", _, _, _, rfl, .ty "list", dp_ty g2, kit_lst g2, _, rfl, iteF ?_⟩
      refine ⟨_, rfl, _, .ty "tuple", _, _, _, rfl, .ty "tuple", dp_ty g2, kit_tup g2, _, rfl, iteF ?_⟩
      refine ⟨_, rfl, _, .ty "list", _, _, _, rfl, .ty "list", dp_ty g1, kit_lst g1, _, rfl, iteF ?_⟩
      have l1 := d1.len
      have l2 := d2.len
      obtain ⟨hf1, hf2⟩ := Bool.and_eq_true_iff.mp hf
      have hf1 := of_decide_eq_true hf1
      refine ⟨_, rfl, a1, xs1, rfl, Or.inl s1, _, rfl, a2, xs2, rfl, Or.inl s2, rfl, ?_⟩
      rw [show decide (V.int (xs1.length : Nat) = V.int (xs2.length : Nat)) = true by rw [l1, l2, decide_eq_true rfl]]
      refine ⟨_, rfl, iteT ?_⟩
      refine ⟨_, rfl, a2, xs2, rfl, Or.inl s2, _, rfl, by omega, by omega, fun Dl hD => lc_range (lo := 0) (n := (xs2.length : Int).toNat) (fun i H' => But [Dl] H H' ∧ H' Dl = some (.lst [])) ⟨But.new hD, upd_same⟩ ?_ ?_⟩
      · rintro i H' hi ⟨b, hDl⟩
        have eD : ∀ z ∈ [Dl], H z = none := fun z hz => by rw [List.mem_singleton.mp hz]; exact hD
        have e := b.ex eD
        have hi2 : i < ds.length := by omega
        obtain ⟨x1, x1i, dx1⟩ := d1.getD (List.getElem?_eq_getElem hi2)
        obtain ⟨x2, x2i, dx2⟩ := d2.getD (List.getElem?_eq_getElem hi2)
        refine ⟨rfl, _, rfl, _, rfl, Or.inl ⟨a1, xs1, _, x1, rfl, rfl, Evl.ex_l e s1, at_of (by omega) x1i, ?_⟩⟩
        refine ⟨_, rfl, _, rfl, Or.inl ⟨a2, xs2, _, x2, rfl, rfl, Evl.ex_l e s2, at_of (by omega) x2i, ?_⟩⟩
        have hfd : fits n ds[i] = true := (List.all_eq_true.mp hf2) _ (List.getElem_mem hi2)
        refine ⟨x1, x2, _, rfl, dx1.up e, dx2.up e, hfd, fun H3 e3 => ⟨_, rfl, ?_⟩⟩
        exact ⟨b.trans (But.of e3), e3 _ _ hDl⟩
      · rintro H' ⟨b, hDl⟩
        have eD : ∀ z ∈ [Dl], H z = none := fun z hz => by rw [List.mem_singleton.mp hz]; exact hD
        refine ⟨Nat.zero_le _, fun p hp => ⟨.list [], .list [], .lst (Or.inl (Or.inl ?_)) .nil, .lst (Or.inl (Or.inl upd_same)) .nil, by decide, by decide, ?_⟩⟩
        · rw [upd_ne (ne_of_none hDl hp)]
          exact hDl
        · exact q _ ((b.ex eD).trans (Evl.Ex.new hp))
    | @tup a2 xs2 ds s2 d2 =>
      cases h1 with
      | @tup a1 xs1 _ s1 d1 =>
      have g2 : Dp K H (.ref a2) (.tuple ds) := .tup s2 d2
      have g1 : Dp K H (.ref a1) (.tuple ds) := .tup s1 d1
      refine ⟨_, rfl, _, rfl, iteF ?_⟩
      refine ⟨_, rfl, _, .ty "bool", _, _, _, rfl, .ty "bool", dp_ty g2, kit_bool g2, _, rfl, iteF ?_⟩
      refine ⟨_, rfl, _, .ty "int", _, _, _, rfl, .ty "int", dp_ty g2, kit_int g2, _, rfl, iteF ?_⟩
      refine ⟨_, rfl, _, .ty "str", _, _, _, rfl, .ty "str", dp_ty g2, kit_str g2, _, rfl, iteF ?_⟩
      refine ⟨_, rfl, _, .ty "dict", _, _, _, rfl, .ty "dict", dp_ty g2, kit_dict g2, _, rfl, iteF ?_⟩
      refine ⟨_, rfl, _, .ty "tuple", _, _, _, rfl, .ty "tuple", dp_ty g2, kit_tup g2, _, rfl, iteF ?_⟩
      refine ⟨_, rfl, _, .ty "tuple", _, _, _, rfl, .ty "tuple", dp_ty g2, kit_tup g2, _, rfl, iteT ?_⟩
      refine ⟨_, rfl, _, .ty "tuple", _, _, _, rfl, .ty "tuple", dp_ty g1, kit_tup g1, _, rfl, iteF ?_⟩
      have l1 := d1.len
      have l2 := d2.len
      obtain ⟨hf1, hf2⟩ := Bool.and_eq_true_iff.mp hf
      have hf1 := of_decide_eq_true hf1
      refine ⟨_, rfl, a1, xs1, rfl, Or.inr s1, _, rfl, a2, xs2, rfl, Or.inr s2, rfl, ?_⟩
      rw [show decide (V.int (xs1.length : Nat) = V.int (xs2.length : Nat)) = true by rw [l1, l2, decide_eq_true rfl]]
      refine ⟨_, rfl, iteT ?_⟩
      refine ⟨_, rfl, a2, xs2, rfl, Or.inr s2, _, rfl, by omega, by omega, fun Dl hD => lc_range (lo := 0) (n := (xs2.length : Int).toNat) (fun i H' => But [Dl] H H' ∧ H' Dl = some (.lst [])) ⟨But.new hD, upd_same⟩ ?_ ?_⟩
      · rintro i H' hi ⟨b, hDl⟩
        have eD : ∀ z ∈ [Dl], H z = none := fun z hz => by rw [List.mem_singleton.mp hz]; exact hD
        have e := b.ex eD
        have hi2 : i < ds.length := by omega
        obtain ⟨x1, x1i, dx1⟩ := d1.getD (List.getElem?_eq_getElem hi2)
        obtain ⟨x2, x2i, dx2⟩ := d2.getD (List.getElem?_eq_getElem hi2)
        refine ⟨rfl, _, rfl, _, rfl, Or.inr (Or.inl ⟨a1, xs1, _, x1, rfl, rfl, Evl.ex_t e s1, at_of (by omega) x1i, ?_⟩)⟩
        refine ⟨_, rfl, _, rfl, Or.inr (Or.inl ⟨a2, xs2, _, x2, rfl, rfl, Evl.ex_t e s2, at_of (by omega) x2i, ?_⟩)⟩
        have hfd : fits n ds[i] = true := (List.all_eq_true.mp hf2) _ (List.getElem_mem hi2)
        refine ⟨x1, x2, _, rfl, dx1.up e, dx2.up e, hfd, fun H3 e3 => ⟨_, rfl, ?_⟩⟩
        exact ⟨b.trans (But.of e3), e3 _ _ hDl⟩
      · rintro H' ⟨b, hDl⟩
        have eD : ∀ z ∈ [Dl], H z = none := fun z hz => by rw [List.mem_singleton.mp hz]; exact hD
        refine ⟨Nat.zero_le _, fun p hp => ⟨.list [], .list [], .lst (Or.inl (Or.inl ?_)) .nil, .lst (Or.inl (Or.inl upd_same)) .nil, by decide, by decide, ?_⟩⟩
        · rw [upd_ne (ne_of_none hDl hp)]
          exact hDl
        · exact q _ ((b.ex eD).trans (Evl.Ex.new hp))
theorem ok_like (D : Dn K mg "_law_like" s_law_like ["told", "owed"]) (T : Bt mg) (f_law_is_whole : Cal P w K mg base 1 "_law_is_whole" (spIsW K)) : ∀ n, Cal P w K mg base (n + 2) "_law_like" (spLike K n)
  | 0 => ok_like0 D
  | n + 1 => ok_like_succ D T f_law_is_whole (ok_like D T f_law_is_whole n)
end
end K25
end
section
set_option Elab.async false
set_option linter.all false
set_option maxRecDepth 100000
set_option maxHeartbeats 4000000
namespace K25
open PySem PySem.Spec PyProof.Rows L2 LB
local macro_rules | `(tactic| walk_at "rd") => `(tactic| repeat (first | refine ⟨_, rfl, ?_⟩ | refine ⟨_, _, rfl, rfl, ?_⟩ | refine ⟨_, _, rfl, ?_⟩))
def spCaC : Sp := fun vs H Q _ => ∃ a i : Nat, vs = [.int (a : Nat), .int (i : Nat)] ∧ i ≤ a ∧ a ≤ 100000000 ∧ i ≤ 100 ∧ Q (.int (C a i : Nat)) H
def spIsC (K : PySem.W.Frag) : Sp := fun vs H Q _ => ∃ (k n : Nat) (t : Addr) (items : List V) (l : List (Nat × Nat)), vs = [.int (k : Nat), .int (n : Nat), .ref t] ∧ SqT K H t items ∧ DpAll K H items (l.map dp2) ∧ Falls k l ∧ sumC l = n ∧ k ≤ 7 ∧ (∀ p ∈ l, p.1 ≤ 10000000) ∧
  ∀ H', Evl.Ex H H' → Q (.bl true) H'
theorem falls_get : ∀ {l : List (Nat × Nat)} {k j : Nat} {p : Nat × Nat}, Falls k l → l[j]? = some p → p.2 + j = k ∧ 1 ≤ p.2 ∧ p.2 ≤ p.1
  | [], _, _, _, _, h => by simp at h
  | (a, i) :: r, k, 0, p, ⟨h1, h2, h3, _, _⟩, h => by
    have e : (a, i) = p := Option.some.inj h
    subst e
    exact ⟨h1, h2, h3⟩
  | (a, i) :: r, k, j + 1, p, ⟨h1, h2, h3, _, h5⟩, h => by
    have := falls_get (j := j) h5 (by simpa using h)
    omega
theorem falls_next : ∀ {l : List (Nat × Nat)} {k j : Nat} {p q : Nat × Nat}, Falls k l → l[j]? = some p → l[j + 1]? = some q → q.1 < p.1
  | [], _, _, _, _, _, h, _ => by simp at h
  | (a, i) :: r, k, 0, p, q, ⟨_, _, _, h4, _⟩, h, g => by
    have e : (a, i) = p := Option.some.inj h
    subst e
    refine h4 q ?_
    have g' : r[0]? = some q := by simpa using g
    rw [List.head?_eq_getElem?, g']
    exact rfl
  | (a, i) :: r, k, j + 1, p, q, ⟨_, _, _, _, h5⟩, h, g => falls_next (j := j) h5 (by simpa using h) (by simpa using g)
theorem sumC_nat : ∀ l : List (Nat × Nat), (l.map fun q => ((C q.1 q.2 : Nat) : Int)).sum = ((sumC l : Nat) : Int)
  | [] => rfl
  | p :: l => by
    rw [List.map_cons, List.sum_cons, sumC_nat l]
    show _ = (((C p.1 p.2 + sumC l : Nat)) : Int)
    omega
section
variable {P : Program} {w : World} {K : PySem.W.Frag} {mg : Str → Option Value} {base : Heap} {CB : Addr}
theorem dp2_sq {H : Hp} {x : V} {p : Nat × Nat} (h : Dp K H x (dp2 p)) : ∃ t, x = .ref t ∧ SqT K H t [.int (p.1 : Nat), .int (p.2 : Nat)] := by
  cases h with
  | tup hs hd =>
    cases hd with
    | cons a1 a2 =>
      cases a2 with
      | cons a2 a3 =>
        cases a3
        cases a1
        cases a2
        exact ⟨_, rfl, hs⟩
theorem ok_ca_choose (D : Dn K mg "_law_ca_choose" s_law_ca_choose ["a", "i"]) (T : Bt mg) : Cal P w K mg base 1 "_law_ca_choose" spCaC := by
  refine cal_of D sc_law_ca_choose (fun vs H Q E h => ?_) (fun f cdv A outer s H vs Q E hr h => ?_)
  · obtain ⟨a, i, rfl, _⟩ := h
    rfl
  · obtain ⟨a, i, rfl, hia, ha, hi, q⟩ := h
    refine ⟨_, (pss_cons (ps_set (i := 2) sc_law_ca_choose.nd rfl (Or.inl rfl) pe_int)
      (pss_cons (ps_for PassesOwn.never rfl (pi_range2 (by rfl) T.m_range (pa_cons pe_int (pa_cons (pe_op op_add (pv 1) pe_int) pa_nil))) (pg_name (i := 3) sc_law_ca_choose.nd rfl (Or.inl rfl)) (pss_one (ps_set (i := 2) sc_law_ca_choose.nd rfl (Or.inl rfl) (pe_ifExp (pt_cmpR op_ge (pv 0) (pv 1) (nomark _)) (pe_op op_fdiv (pe_op op_mul (pv 2) (pe_op op_add (pe_op op_sub (pv 0) (pv 1)) (pv 3))) (pv 3)) pe_int))))
      (pss_one (ps_ret (pv 2))))), ?_⟩
    refine ⟨_, rfl, _, _, rfl, rfl, _, _, rfl, ⟨by decide, by decide, by omega, by omega⟩, for_range (lo := 1) (n := ((i : Int) + 1 - 1).toNat) (fun j σ H' => ∃ v3, σ = [some (.int a), some (.int i), some (.int (C (a - i + j) j : Nat)), v3] ∧ H' = H) ⟨none, by rw [C_zero]; rfl, rfl⟩ ?_ ?_⟩
    · rintro j σ H' hj ⟨v3, rfl, rfl⟩
      refine ⟨_, rfl, _, rfl, _, _, rfl, rfl, _, rfl, iteD (fun c => ?_) (fun c => absurd (show (i : Int) ≤ (a : Int) by omega) c)⟩
      refine ⟨_, rfl, _, rfl, _, rfl, _, _, rfl, rfl, _, rfl, _, _, rfl, rfl, _, _, rfl, rfl, Or.inr ⟨by omega, by omega⟩, _, rfl, _, _, rfl, rfl, ⟨by omega, by omega⟩, ?_⟩
      refine ⟨some (.int (1 + (j : Int))), ?_, rfl⟩
      have e1 : ((a : Int) - (i : Int) + (1 + (j : Int))) = ((a - i + j + 1 : Nat) : Int) := by omega
      have e2 : (1 + (j : Int)) = ((j + 1 : Nat) : Int) := by omega
      have e3 : ((C (a - i + j) j : Nat) : Int) * ((a : Int) - (i : Int) + (1 + (j : Int))) / (1 + (j : Int)) = ((C (a - i + (j + 1)) (j + 1) : Nat) : Int) := by
        rw [e1, e2, ← Int.natCast_mul, C_diag, ← Int.natCast_ediv, Nat.mul_div_cancel _ (by omega)]
        rfl
      rw [← e3]
      rfl
    · rintro σ H' ⟨v3, rfl, rfl⟩
      refine ⟨_, rfl, ?_⟩
      have e : a - i + ((i : Int) + 1 - 1).toNat = a := by omega
      have e' : ((i : Int) + 1 - 1).toNat = i := by omega
      rw [e, e']
      exact q
theorem ok_ca_is_cascade (D : Dn K mg "_law_ca_is_cascade" s_law_ca_is_cascade ["k", "n", "thing"]) (T : Bt mg) (f_law_is_whole : Cal P w K mg base 1 "_law_is_whole" (spIsW K)) (f_law_ca_choose : Cal P w K mg base 1 "_law_ca_choose" spCaC) : Cal P w K mg base 2 "_law_ca_is_cascade" (spIsC K) := by
  refine cal_of D sc_law_ca_is_cascade (fun vs H Q E h => ?_) (fun f cdv A outer s H vs Q E hr h => ?_)
  · obtain ⟨a, i, t, items, l, rfl, _⟩ := h
    rfl
  · obtain ⟨k, n, t, items, l, rfl, S, hd, hF, hsum, hk, hbd, q⟩ := h
    refine ⟨_, (pss_cons (ps_if (pt_not (pt_val (pe_callB call_isi (by rfl) T.m_isinstance (by decide +kernel) (pa_cons (pv 2) (pa_cons (pe_bltn (v := .ty "tuple") (u := .type "tuple") (by rfl) T.m_tuple (by decide +kernel) rfl) pa_nil))))) (pss_one (ps_ret pe_bl)) pss_nil)
      (pss_cons (ps_for PassesOwn.never rfl (pi_range1 (by rfl) T.m_range (pa_cons (pe_callB call_len_seq (by rfl) T.m_len PySem.boot_len (pa_cons (pv 2) pa_nil)) pa_nil)) (pg_name (i := 3) sc_law_ca_is_cascade.nd rfl (Or.inl rfl)) (pss_cons (ps_set (i := 4) sc_law_ca_is_cascade.nd rfl (Or.inl rfl) (pe_ix ix_tup (pv 2) (pv 3) (fun _ _ => rfl)))
      (pss_cons (ps_if (PW.pt (pw_or (pt_not (pt_val (pe_callB call_isi (by rfl) T.m_isinstance (by decide +kernel) (pa_cons (pv 4) (pa_cons (pe_bltn (v := .ty "tuple") (u := .type "tuple") (by rfl) T.m_tuple (by decide +kernel) rfl) pa_nil))))) (pw_or (pt_cmpR op_ne (pe_callB call_len_seq (by rfl) T.m_len PySem.boot_len (pa_cons (pv 4) pa_nil)) pe_int (nomark _)) (pw_or (pt_not (pt_val (LB.pe_c f_law_is_whole hr (by decide) (by rfl) (pa_cons (pe_ix ix_tup (pv 4) pe_int (fun _ _ => rfl)) pa_nil)))) (pw_or1 (pt_not (pt_val (LB.pe_c f_law_is_whole hr (by decide) (by rfl) (pa_cons (pe_ix ix_tup (pv 4) pe_int (fun _ _ => rfl)) pa_nil))))))))) (pss_one (ps_ret pe_bl)) pss_nil)
      (pss_one (ps_if (PW.pt (pw_or (pt_cmpR op_ne (pe_ix ix_tup (pv 4) pe_int (fun _ _ => rfl)) (pe_op op_sub (pv 0) (pv 3)) (nomark _)) (pw_or (pt_cmpR op_lt (pe_ix ix_tup (pv 4) pe_int (fun _ _ => rfl)) pe_int (nomark _)) (pw_or (pt_cmpR op_lt (pe_ix ix_tup (pv 4) pe_int (fun _ _ => rfl)) (pe_ix ix_tup (pv 4) pe_int (fun _ _ => rfl)) (nomark _)) (pw_or1 (PW.pt (pw_and (pt_cmpR op_gt (pv 3) pe_int (nomark _)) (pw_and1 (pt_cmpR op_ge (pe_ix ix_tup (pv 4) pe_int (fun _ _ => rfl)) (pe_ix ix_tup (pe_ix ix_tup (pv 2) (pe_op op_sub (pv 3) pe_int) (fun _ _ => rfl)) pe_int (fun _ _ => rfl)) (nomark _)))))))))) (pss_one (ps_ret pe_bl)) pss_nil)))))
      (pss_one (ps_ret (pe_cmpR op_eq (pe_callB (cr_sum rfl) (by rfl) T.m_sum (by decide +kernel) (pa_cons (pe_lc (own := [("a", 5), ("i", 6)]) rfl sc_law_ca_is_cascade.nd (pi_tup (pv 2)) (blkOk_by (N := ["k", "n", "thing", "at", "pair", "a", "i"]) (sc := defScope s_law_ca_is_cascade) (by decide +kernel)) (fun _ _ _ _ _ => (LB.pg_tupK (K := K) 2 rfl rfl (pgs_cons (pg_name (i := 5) sc_law_ca_is_cascade.nd rfl (Or.inl rfl)) (pgs_cons (pg_name (i := 6) sc_law_ca_is_cascade.nd rfl (Or.inl rfl)) pgs_nil)))) (fun _ _ _ _ _ => pts_nil) (fun _ _ _ _ _ => (LB.pe_c f_law_ca_choose hr (by decide) (by rfl) (pa_cons (pv 5) (pa_cons (pv 6) pa_nil))))) pa_nil)) (pv 1) (nomark _)))))), ?_⟩
    have g : Dp K H (.ref t) (.tuple (l.map dp2)) := .tup S hd
    have hlen : items.length = l.length := by rw [hd.len, List.length_map]
    have hl7 := falls_len hF
    refine ⟨_, rfl, _, .ty "tuple", _, _, _, rfl, .ty "tuple", dp_ty g, kit_tup g, _, rfl, iteF ?_⟩
    refine ⟨_, rfl, t, items, rfl, Or.inr S, _, rfl, by omega, by omega, for_range (lo := 0) (n := (items.length : Int).toNat) (fun j σ H' => ∃ v3 v4, σ = [some (V.int (k : Nat)), some (V.int (n : Nat)), some (V.ref t), v3, v4, none, none] ∧ H' = H) ⟨none, none, rfl, rfl⟩ ?_ ?_⟩
    · rintro j σ H' hj ⟨v3, v4, rfl, rfl⟩
      have hj' : j < l.length := by omega
      obtain ⟨x, hx, dx⟩ := hd.getD (i := j) (d := dp2 l[j]) (by rw [List.getElem?_map, List.getElem?_eq_getElem hj']; rfl)
      obtain ⟨u, rfl, su⟩ := dp2_sq dx
      have hp := falls_get hF (List.getElem?_eq_getElem hj')
      have g0 : atI [V.int ((l[j].1 : Nat) : Int), V.int ((l[j].2 : Nat) : Int)] 0 = some (V.int ((l[j].1 : Nat) : Int)) := atI_nat (j := 0) rfl
      have g1 : atI [V.int ((l[j].1 : Nat) : Int), V.int ((l[j].2 : Nat) : Int)] 1 = some (V.int ((l[j].2 : Nat) : Int)) := atI_nat (j := 1) rfl
      refine ⟨_, rfl, _, rfl, t, items, _, _, rfl, rfl, S, at_of (by omega) hx, ?_⟩
      refine ⟨_, rfl, _, .ty "tuple", _, _, _, rfl, .ty "tuple", dp_ty dx, kit_tup dx, _, rfl, iteF ?_⟩
      refine ⟨_, rfl, u, _, rfl, Or.inr su, rfl, _, rfl, iteF ?_⟩
      refine ⟨_, rfl, u, _, _, _, rfl, rfl, su, g0, _, _, rfl, Dp.int _, _, rfl, iteF ?_⟩
      refine ⟨_, rfl, u, _, _, _, rfl, rfl, su, g1, _, _, rfl, Dp.int _, _, rfl, iteF ?_⟩
      -- the second if
      refine ⟨_, rfl, u, _, _, _, rfl, rfl, su, g1, _, rfl, _, rfl, _, _, rfl, rfl, rfl, _, rfl, ?_⟩
      have e1 : ((l[j].2 : Nat) : Int) = (k : Int) - (0 + (j : Int)) := by omega
      rw [show (!decide (V.int ((l[j].2 : Nat) : Int) = (fun i j => V.int (i - j)) (k : Int) (0 + (j : Int)))) = false by rw [e1, decide_eq_true rfl]; rfl]
      refine iteF ⟨_, rfl, u, _, _, _, rfl, rfl, su, g1, _, _, rfl, rfl, _, rfl, ?_⟩
      rw [decide_eq_false (show ¬ ((l[j].2 : Nat) : Int) < 1 by omega)]
      refine iteF ⟨_, rfl, u, _, _, _, rfl, rfl, su, g0, _, rfl, u, _, _, _, rfl, rfl, su, g1, _, _, rfl, rfl, _, rfl, ?_⟩
      rw [decide_eq_false (show ¬ ((l[j].1 : Nat) : Int) < ((l[j].2 : Nat) : Int) by omega)]
      refine iteF ⟨_, rfl, _, _, rfl, rfl, _, rfl, iteD (fun c => ?_) (fun c => ?_)⟩
      · obtain ⟨m, rfl⟩ : ∃ m, j = m + 1 := ⟨j - 1, by omega⟩
        have hm' : m < l.length := by omega
        obtain ⟨y, hy, dy⟩ := hd.getD (i := m) (d := dp2 l[m]) (by rw [List.getElem?_map, List.getElem?_eq_getElem hm']; rfl)
        obtain ⟨u2, rfl, su2⟩ := dp2_sq dy
        have hnx := falls_next hF (List.getElem?_eq_getElem hm') (List.getElem?_eq_getElem hj')
        have g2 : atI [V.int ((l[m].1 : Nat) : Int), V.int ((l[m].2 : Nat) : Int)] 0 = some (V.int ((l[m].1 : Nat) : Int)) := atI_nat (j := 0) rfl
        refine ⟨_, rfl, u, _, _, _, rfl, rfl, su, g0, _, rfl, _, rfl, _, _, rfl, rfl, t, items, _, _, rfl, rfl, S, at_of (by omega) hy, u2, _, _, _, rfl, rfl, su2, g2, _, _, rfl, rfl, _, rfl, ?_⟩
        rw [decide_eq_false (show ¬ ((l[m].1 : Nat) : Int) ≤ ((l[m + 1].1 : Nat) : Int) by omega)]
        exact iteF ⟨_, _, rfl, rfl⟩
      · exact iteF ⟨_, _, rfl, rfl⟩
    · rintro σ H' ⟨v3, v4, rfl, rfl⟩
      refine ⟨_, rfl, t, rfl, ⟨items, S⟩, fun Dl hD => lc_tup (K := K) (a := t) (xs := items) (fun i H2 => Evl.Ex H' H2 ∧ H2 Dl = some (.lst (((l.take i).map fun q => ((C q.1 q.2 : Nat) : Int)).map V.int))) ⟨Evl.Ex.new hD, upd_same⟩ (fun i H2 _ ⟨e, _⟩ => Evl.ex_t e S) ?_ ?_⟩
      · rintro i x H2 hx ⟨e2, h2⟩
        obtain ⟨u, pr, rfl, hpr, hst⟩ := dp2_get hd hx
        have hm : pr ∈ l := List.mem_of_getElem? hpr
        have hf := falls_mem hF pr hm
        have hb := hbd pr hm
        refine ⟨u, _, rfl, Evl.ex_t e2 hst, rfl, _, _, rfl, _, _, rfl, rfl, rfl, ?_⟩
        refine ⟨_, rfl, _, rfl, pr.1, pr.2, rfl, hf.2.2, by omega, by omega, ?_⟩
        refine ⟨_, h2, ?_, e2.mut (p := Dl) hD, ?_⟩
        · rw [List.length_map, List.length_map, List.length_take]
          exact small1000 (by omega)
        · rw [upd_same, take_snoc hpr, List.map_append, List.map_append]
          rfl
      · rintro H2 ⟨e2, h2⟩
        rw [hlen, List.take_length] at h2
        refine ⟨Dl, _, rfl, Or.inl (Or.inl h2), _, rfl, rfl, ?_⟩
        rw [sumC_nat, hsum, decide_eq_true rfl]
        exact q H2 e2
end
end K25
end
section
set_option Elab.async false
set_option linter.all false
set_option maxRecDepth 100000
set_option maxHeartbeats 4000000
namespace K25
open PySem PySem.Spec PyProof.Rows L2 LB
local macro_rules | `(tactic| walk_at "rd") => `(tactic| repeat (first | refine ⟨_, rfl, ?_⟩ | refine ⟨_, _, rfl, rfl, ?_⟩ | refine ⟨_, _, rfl, ?_⟩))
def onesF : Nat → Nat → Nat
  | 0, _ => 0
  | f + 1, m => if m = 0 then 0 else onesF f (m &&& (m - 1)) + 1
def ones (m : Nat) : Nat := onesF m m
theorem onesF_enough : ∀ (f m g : Nat), m ≤ f → m ≤ g → onesF f m = onesF g m
  | 0, m, g, h1, h2 => by
    have e : m = 0 := by omega
    subst e
    cases g with
    | zero => rfl
    | succ g => exact (if_pos rfl).symm
  | f + 1, m, 0, h1, h2 => by
    have e : m = 0 := by omega
    subst e
    exact if_pos rfl
  | f + 1, m, g + 1, h1, h2 => by
    show (if m = 0 then 0 else onesF f (m &&& (m - 1)) + 1) = (if m = 0 then 0 else onesF g (m &&& (m - 1)) + 1)
    by_cases e : m = 0
    · rw [if_pos e, if_pos e]
    · rw [if_neg e, if_neg e]
      have hl : m &&& (m - 1) ≤ m - 1 := Nat.and_le_right
      rw [onesF_enough f _ g (by omega) (by omega)]
theorem ones_step {m : Nat} (h : m ≠ 0) : ones m = ones (m &&& (m - 1)) + 1 := by
  obtain ⟨k, rfl⟩ : ∃ k, m = k + 1 := ⟨m - 1, by omega⟩
  have hl : (k + 1) &&& (k + 1 - 1) ≤ k + 1 - 1 := Nat.and_le_right
  show (if k + 1 = 0 then 0 else onesF k ((k + 1) &&& (k + 1 - 1)) + 1) = _
  rw [if_neg h]
  unfold ones
  rw [onesF_enough k _ _ (by omega) (Nat.le_refl _)]
def spOnes : Sp := fun vs H Q _ => ∃ m : Nat, vs = [.int (m : Nat)] ∧ Q (.int (ones m : Nat)) H
def spRight : Sp := fun vs H Q _ => ∃ k n : Nat, vs = [.int (k : Nat), .int (n : Nat)] ∧ 1 ≤ k ∧ k ≤ 7 ∧ n ≤ 1000000 ∧ ∀ H', Evl.Ex H H' → Q (.bl true) H'
def spDrawn : Sp := fun vs H Q _ => ∃ j : Addr, vs = [.ref j] ∧ Jar H j ∧ ∀ H', Jar H' j → But [j] H H' → Q (.bl true) H'
theorem whole_in {lo hi : Int} {n : Nat} (h1 : lo ≤ n) (h2 : (n : Int) ≤ hi) : wholeB (.int (n : Nat)) lo hi = true := by
  show (decide (lo ≤ (n : Int)) && decide ((n : Int) ≤ hi)) = true
  rw [decide_eq_true h1, decide_eq_true h2]
  rfl
section
variable {P : Program} {w : World} {K : PySem.W.Frag} {mg : Str → Option Value} {base : Heap} {CB : Addr}
/-- cascade of right numbers -/
theorem cascade_use {H : Hp} {k n : Nat} {Q : VK} {E : XK} (h1 : 1 ≤ k) (h2 : k ≤ 7) (h3 : n ≤ 1000000) (q : ∀ (p : Addr) (H' : Hp) (items : List V), H p = none → Evl.Ex H H' → H' p = some (.tup items) → DpAll K H' items ((casc k n).map dp2) → Q (.ref p) H') :
    spCascade K CB [.int (k : Nat), .int (n : Nat)] H Q E := by
  refine ⟨_, _, _, _, rfl, .int _, .int _, fun w1 => ?_, fun _ w2 => ?_, fun _ _ k' n' e1 e2 => ?_⟩
  · rw [whole_in (by omega) (by omega)] at w1
    cases w1
  · rw [whole_in (by omega) (by omega)] at w2
    cases w2
  · have e1 : k' = k := by
      have := PyData.int.inj e1
      omega
    have e2 : n' = n := by
      have := PyData.int.inj e2
      omega
    rw [e1, e2]
    exact q
theorem shadow_use {H : Hp} {k n : Nat} {Q : VK} {E : XK} (h1 : 1 ≤ k) (h2 : k ≤ 7) (h3 : n ≤ 1000000) (q : ∀ (H' : Hp), Evl.Ex H H' → Q (.int (shad k n : Nat)) H') :
    spShadow K CB [.int (k : Nat), .int (n : Nat)] H Q E := by
  refine ⟨_, _, _, _, rfl, .int _, .int _, fun w1 => ?_, fun _ w2 => ?_, fun _ _ k' n' e1 e2 => ?_⟩
  · rw [whole_in (by omega) (by omega)] at w1
    cases w1
  · rw [whole_in (by omega) (by omega)] at w2
    cases w2
  · have e1 : k' = k := by
      have := PyData.int.inj e1
      omega
    have e2 : n' = n := by
      have := PyData.int.inj e2
      omega
    rw [e1, e2]
    exact q
theorem ok_ca_ones (D : Dn K mg "_law_ca_ones" s_law_ca_ones ["mask"]) : Cal P w K mg base 1 "_law_ca_ones" spOnes := by
  refine cal_of D sc_law_ca_ones (fun vs H Q E h => ?_) (fun f cdv A outer s H vs Q E hr h => ?_)
  · obtain ⟨m, rfl, _⟩ := h
    rfl
  · obtain ⟨m, rfl, q⟩ := h
    refine ⟨_, (pss_cons (ps_set (i := 1) sc_law_ca_ones.nd rfl (Or.inl rfl) pe_int)
      (pss_cons (ps_while PassesOwn.never (pt_cmpR op_gt (pv 0) pe_int (nomark _)) (pss_one (ps_par (i := 0) (j := 1) (by rfl) sc_law_ca_ones.nd rfl rfl (by decide) rfl rfl (pa_cons (pe_op op_and (pv 0) (pe_op op_sub (pv 0) pe_int)) (pa_cons (pe_op op_add (pv 1) pe_int) pa_nil)) (by rfl))))
      (pss_one (ps_ret (pv 1))))), ?_⟩
    refine ⟨fun x σ H' => ∃ c : Nat, σ = [some (V.int (x : Nat)), some (V.int (c : Nat))] ∧ H' = H ∧ c + ones x = ones m, ⟨m, 0, rfl, rfl, by omega⟩, ?_⟩
    rintro x σ H' ⟨c, rfl, rfl, hx⟩
    refine ⟨_, rfl, _, _, rfl, rfl, _, rfl, iteD (fun c0 => ?_) (fun c0 => ?_)⟩
    · have hx0 : x ≠ 0 := by omega
      have hs := ones_step hx0
      have hl : x &&& (x - 1) ≤ x - 1 := Nat.and_le_right
      refine ⟨fun σ' H'' => σ' = [some (V.int ((x &&& (x - 1) : Nat) : Int)), some (V.int ((c + 1 : Nat) : Int))] ∧ H'' = H', fun σ' H'' ⟨e1, e2⟩ => ⟨_, by omega, c + 1, e1, e2, by omega⟩, ?_⟩
      refine ⟨_, rfl, _, rfl, _, _, rfl, rfl, _, _, rfl, rfl, _, rfl, _, _, rfl, rfl, _, _, rfl, ?_, rfl⟩
      have e : Builtin.bitAnd ((x : Nat) : Int) ((x : Nat) - 1) = ((x &&& (x - 1) : Nat) : Int) := by
        rw [show ((x : Nat) : Int) - 1 = ((x - 1 : Nat) : Int) by omega]
        unfold Builtin.bitAnd
        rw [decide_eq_true (by omega), decide_eq_true (by omega)]
        rfl
      show [some (V.int (Builtin.bitAnd ((x : Nat) : Int) ((x : Nat) - 1))), some (V.int ((c : Int) + 1))] = _
      rw [e]
      rfl
    · have e0 : x = 0 := by omega
      subst e0
      refine ⟨_, rfl, ?_⟩
      have e : c = ones m := by
        have : ones 0 = 0 := rfl
        omega
      rw [e]
      exact q
theorem ok_ca_right (D : Dn K mg "_law_ca_right" s_law_ca_right ["k", "n"]) (T : Bt mg) (f_cascade : CalX P w K mg base 5 "cascade" (spCascade K CB)) (f_shadow : CalX P w K mg base 5 "shadow" (spShadow K CB)) (f_law_ca_is_cascade : Cal P w K mg base 2 "_law_ca_is_cascade" (spIsC K))
    (f_law_like : Cal P w K mg base 3 "_law_like" (spLike K 1)) (f_law_ca_choose : Cal P w K mg base 1 "_law_ca_choose" spCaC) : Cal P w K mg base 6 "_law_ca_right" spRight := by
  refine cal_of D sc_law_ca_right (fun vs H Q E h => ?_) (fun f cdv A outer s H vs Q E hr h => ?_)
  · obtain ⟨k, n, rfl, _⟩ := h
    rfl
  · obtain ⟨k, n, rfl, k1, k7, n1, q⟩ := h
    refine ⟨_, (pss_cons (ps_set (i := 2) sc_law_ca_right.nd rfl (Or.inl rfl) (LB.pe_cx f_cascade hr (by decide) (by rfl) (pa_cons (pv 0) (pa_cons (pv 1) pa_nil))))
      (pss_cons (ps_if (pt_not (pt_val (LB.pe_c f_law_ca_is_cascade hr (by decide) (by rfl) (pa_cons (pv 0) (pa_cons (pv 1) (pa_cons (pv 2) pa_nil)))))) (pss_one (ps_ret pe_bl)) pss_nil)
      (pss_one (ps_ret (LB.pe_c f_law_like hr (by decide) (by rfl) (pa_cons (LB.pe_cx f_shadow hr (by decide) (by rfl) (pa_cons (pv 0) (pa_cons (pv 1) pa_nil))) (pa_cons (pe_callB (cr_sum rfl) (by rfl) T.m_sum (by decide +kernel) (pa_cons (pe_lc (own := [("a", 3), ("i", 4)]) rfl sc_law_ca_right.nd (pi_tup (pv 2)) (blkOk_by (N := ["k", "n", "told", "a", "i"]) (sc := defScope s_law_ca_right) (by decide +kernel)) (fun _ _ _ _ _ => (LB.pg_tupK (K := K) 2 rfl rfl (pgs_cons (pg_name (i := 3) sc_law_ca_right.nd rfl (Or.inl rfl)) (pgs_cons (pg_name (i := 4) sc_law_ca_right.nd rfl (Or.inl rfl)) pgs_nil)))) (fun _ _ _ _ _ => pts_nil) (fun _ _ _ _ _ => (LB.pe_c f_law_ca_choose hr (by decide) (by rfl) (pa_cons (pv 3) (pa_cons (pe_op op_sub (pv 4) pe_int) pa_nil))))) pa_nil)) pa_nil))))))), ?_⟩
    refine ⟨_, rfl, _, rfl, ?_⟩
    dsimp only [tNil, List.cons_append, List.nil_append]
    refine cascade_use k1 k7 n1 fun t H1 items ht e1 ht1 hd => ?_
    have S1 : SqT K H1 t items := Or.inl (Or.inl ht1)
    have hF := casc_falls k n
    have hl7 := falls_len hF
    have hbd : ∀ p ∈ casc k n, p.1 ≤ 10000000 := fun p hp => by
      have := casc_bound k n p hp
      omega
    refine ⟨_, rfl, _, rfl, _, rfl, k, n, t, items, _, rfl, S1, hd, hF, casc_sum k n (by omega), k7, hbd, fun H2 e2 => ⟨_, rfl, iteF ?_⟩⟩
    refine ⟨_, rfl, _, rfl, ?_⟩
    dsimp only [tNil, List.cons_append, List.nil_append]
    refine shadow_use k1 k7 n1 fun H3 e3 => ?_
    have e13 := e2.trans e3
    have hlen : items.length = (casc k n).length := by rw [hd.len, List.length_map]
    refine ⟨_, rfl, t, rfl, ⟨items, Evl.ex_t e13 S1⟩, fun Dl hD => lc_tup (K := K) (a := t) (xs := items) (fun i H' => Evl.Ex H3 H' ∧ H' Dl = some (.lst ((((casc k n).take i).map fun q => ((C q.1 (q.2 - 1) : Nat) : Int)).map V.int))) ⟨Evl.Ex.new hD, upd_same⟩ (fun i H' _ ⟨e, _⟩ => Evl.ex_t (e13.trans e) S1) ?_ ?_⟩
    · rintro i x H' hx ⟨e4, h2⟩
      obtain ⟨u, pr, rfl, hpr, hst⟩ := dp2_get hd hx
      have hm : pr ∈ casc k n := List.mem_of_getElem? hpr
      have hf := falls_mem hF pr hm
      have hb := hbd pr hm
      refine ⟨u, _, rfl, Evl.ex_t (e13.trans e4) hst, rfl, _, _, rfl, _, _, rfl, rfl, rfl, ?_⟩
      refine ⟨_, rfl, _, rfl, _, _, rfl, rfl, pr.1, pr.2 - 1, ?_, by omega, by omega, by omega, ?_⟩
      · show [V.int (pr.1 : Nat), V.int (((pr.2 : Nat) : Int) - 1)] = _
        rw [show ((pr.2 : Nat) : Int) - 1 = ((pr.2 - 1 : Nat) : Int) by omega]
      · refine ⟨_, h2, ?_, e4.mut (p := Dl) hD, ?_⟩
        · rw [List.length_map, List.length_map, List.length_take]
          exact small1000 (by omega)
        · rw [upd_same, take_snoc hpr, List.map_append, List.map_append]
          rfl
    · rintro H' ⟨e4, h2⟩
      rw [hlen, List.take_length] at h2
      refine ⟨Dl, _, rfl, Or.inl (Or.inl h2), ?_⟩
      rw [sumB_nat]
      exact ⟨_, _, _, rfl, .int _, .int _, rfl, fun H5 e5 => q H5 (((e1.trans e13).trans e4).trans e5)⟩
end
end K25
end
section
set_option Elab.async false
set_option linter.all false
set_option maxRecDepth 100000
set_option maxHeartbeats 4000000
namespace K25
open PySem PySem.Spec PyProof.Rows L2 LB
theorem C_small {a k : Nat} (h1 : k ≤ 7) (h2 : a ≤ 15) : C a k ≤ 6435 := by
  have h := C_mono k h2
  have : C 15 k ≤ 6435 := by
    have : ∀ k, k ≤ 7 → C 15 k ≤ 6435 := by decide +kernel
    exact this k h1
  omega
theorem iteN {p : Prop} [Decidable p] {A B : Prop} (h1 : p → B) (h2 : ¬ p → A) : if (!decide p) = true then A else B := by
  by_cases h : p
  · rw [decide_eq_true h]; exact iteF (h1 h)
  · rw [decide_eq_false h]; exact iteT (h2 h)
section
variable {P : Program} {w : World} {K : PySem.W.Frag} {mg : Str → Option Value} {base : Heap} {CB : Addr}
theorem ok_ca_drawn_right (D : Dn K mg "_law_ca_drawn_right" s_law_ca_drawn_right ["jar"]) (T : Bt mg) (f_shadow : CalX P w K mg base 5 "shadow" (spShadow K CB)) (f_law_take : Cal P w K mg base 1 "_law_take" spTake) (f_law_one : Cal P w K mg base 2 "_law_one" (spOne K)) (f_law_ca_choose : Cal P w K mg base 1 "_law_ca_choose" spCaC)
    (f_law_ca_right : Cal P w K mg base 6 "_law_ca_right" spRight) : Cal P w K mg base 7 "_law_ca_drawn_right" spDrawn := by
  refine cal_of D sc_law_ca_drawn_right (fun vs H Q E h => ?_) (fun f cdv A outer s H vs Q E hr h => ?_)
  · obtain ⟨j, rfl, _⟩ := h
    rfl
  · obtain ⟨j, rfl, J, q⟩ := h
    refine ⟨_, (pss_cons (ps_set (i := 1) sc_law_ca_drawn_right.nd rfl (Or.inl rfl) (pe_op op_add pe_int (LB.pe_c f_law_take hr (by decide) (by rfl) (pa_cons (pv 0) (pa_cons pe_int pa_nil)))))
      (pss_cons (ps_for PassesOwn.never rfl (pi_range1 (by rfl) T.m_range (pa_cons pe_int pa_nil)) (pg_name (i := 2) sc_law_ca_drawn_right.nd rfl (Or.inl rfl)) (pss_cons (ps_set (i := 3) sc_law_ca_drawn_right.nd rfl (Or.inl rfl) (LB.pe_c f_law_one hr (by decide) (by rfl) (pa_cons (pv 0) (pa_cons (pe_lst (pa_cons (LB.pe_c f_law_take hr (by decide) (by rfl) (pa_cons (pv 0) (pa_cons pe_int pa_nil))) (pa_cons (LB.pe_c f_law_take hr (by decide) (by rfl) (pa_cons (pv 0) (pa_cons pe_int pa_nil))) (pa_cons (LB.pe_c f_law_take hr (by decide) (by rfl) (pa_cons (pv 0) (pa_cons pe_int pa_nil))) (pa_cons pe_int (pa_cons pe_int pa_nil)))))) pa_nil))))
      (pss_cons (ps_set (i := 4) sc_law_ca_drawn_right.nd rfl (Or.inl rfl) (pe_op op_add (pv 1) (LB.pe_c f_law_take hr (by decide) (by rfl) (pa_cons (pv 0) (pa_cons pe_int pa_nil)))))
      (pss_cons (ps_set (i := 5) sc_law_ca_drawn_right.nd rfl (Or.inl rfl) (LB.pe_c f_law_ca_choose hr (by decide) (by rfl) (pa_cons (pv 4) (pa_cons (pv 1) pa_nil))))
      (pss_one (ps_for PassesOwn.never rfl (pi_list (pe_lst (pa_cons (pv 3) (pa_cons (pe_op op_sub (pv 5) pe_int) (pa_cons (pv 5) (pa_cons (pe_op op_add (pv 5) pe_int) pa_nil)))))) (pg_name (i := 6) sc_law_ca_drawn_right.nd rfl (Or.inl rfl)) (pss_cons (ps_if (pt_not (pt_chain op_le op_lt pe_int (pv 6) pe_int)) (pss_one ps_continue) pss_nil)
      (pss_cons (ps_if (PW.pt (pw_or (pt_not (pt_val (LB.pe_c f_law_ca_right hr (by decide) (by rfl) (pa_cons (pv 1) (pa_cons (pv 6) pa_nil))))) (pw_or1 (pt_not (pt_val (LB.pe_c f_law_ca_right hr (by decide) (by rfl) (pa_cons (pv 1) (pa_cons (pe_op op_add (pv 6) pe_int) pa_nil)))))))) (pss_one (ps_ret pe_bl)) pss_nil)
      (pss_cons (ps_par (i := 7) (j := 8) (by rfl) sc_law_ca_drawn_right.nd rfl rfl (by decide) rfl rfl (pa_cons (LB.pe_cx f_shadow hr (by decide) (by rfl) (pa_cons (pv 1) (pa_cons (pv 6) pa_nil))) (pa_cons (LB.pe_cx f_shadow hr (by decide) (by rfl) (pa_cons (pv 1) (pa_cons (pe_op op_add (pv 6) pe_int) pa_nil))) pa_nil)) (by rfl))
      (pss_one (ps_if (PW.pt (pw_or (pt_cmpR op_lt (pv 8) (pv 7) (nomark _)) (pw_or1 (pt_cmpR op_gt (pv 8) (pe_op op_add (pv 7) (pv 1)) (nomark _))))) (pss_one (ps_ret pe_bl)) pss_nil)))))))))))
      (pss_one (ps_ret pe_bl)))), ?_⟩
    refine ⟨_, rfl, j, 7, rfl, J, by decide, by decide, fun v H1 hv J1 b1 => ?_⟩
    refine ⟨_, _, rfl, rfl, 8, rfl, by decide, by decide, for_range (lo := 0) (n := (8 : Int).toNat) (fun i σ H' => ∃ v2 v3 v4 v5 v6 v7 v8, σ = [some (V.ref j), some (V.int ((v + 1 : Nat) : Int)), v2, v3, v4, v5, v6, v7, v8] ∧ Jar H' j ∧ But [j] H H')
      ⟨none, none, none, none, none, none, none, by rw [show ((v + 1 : Nat) : Int) = 1 + (v : Int) by omega]; rfl, J1, b1⟩ ?_ ?_⟩
    · rintro i σ H0 hi ⟨v2, v3, v4, v5, v6, v7, v8, rfl, J0, b0⟩
      refine ⟨_, rfl, _, rfl, j, 40, rfl, J0, by decide, by decide, fun t1 G1 ht1 K1 c1 => ?_⟩
      refine ⟨_, rfl, j, 1000001, rfl, K1, by decide, by decide, fun t2 G2 ht2 K2 c2 => ?_⟩
      refine ⟨_, rfl, j, 1000001, rfl, K2, by decide, by decide, fun t3 G3 ht3 K3 c3 => ?_⟩
      refine ⟨(by show 5 ≤ sizeLine; decide), fun p hp => ?_⟩
      have npj : p ≠ j := fun z => by rw [z] at hp; exact K3.some hp
      have K4 : Jar (upd G3 p (.lst [.int (t1 : Nat), .int (t2 : Nat), .int (t3 : Nat), .int 1000000, .int 0])) j := by
        obtain ⟨a, b, hj, hJ⟩ := K3
        exact ⟨a, b, by rw [upd_ne npj.symm]; exact hj, hJ⟩
      refine ⟨j, p, _, rfl, K4, Or.inl (Or.inl (Or.inl (by rw [cut_out (by simpa using npj), upd_same]))), (by show 1 ≤ 5; decide), (by show 5 < 1073741824; decide), fun x vx G5 hx K5 c5 => ?_⟩
      have bG5 : But [j] H G5 := b0.trans (c1.trans (c2.trans (c3.trans ((But.new hp).trans c5))))
      obtain ⟨nn, rfl, hnn⟩ : ∃ nn : Nat, vx = .int (nn : Nat) ∧ nn ≤ 1000000 := by
        match x, hx with
        | 0, hx => cases hx; exact ⟨t1, rfl, by omega⟩
        | 1, hx => cases hx; exact ⟨t2, rfl, by omega⟩
        | 2, hx => cases hx; exact ⟨t3, rfl, by omega⟩
        | 3, hx => cases hx; exact ⟨1000000, rfl, by omega⟩
        | 4, hx => cases hx; exact ⟨0, rfl, by omega⟩
        | x + 5, hx => simp at hx
      refine ⟨_, rfl, _, rfl, j, 9, rfl, K5, by decide, by decide, fun y G6 hy K6 c6 => ?_⟩
      refine ⟨_, _, rfl, rfl, ?_⟩
      refine ⟨_, rfl, _, rfl, v + 1 + y, v + 1, ?_, by omega, by omega, by omega, ?_⟩
      · show [V.int (((v + 1 : Nat) : Int) + (y : Int)), V.int ((v + 1 : Nat) : Int)] = _
        rw [show (((v + 1 : Nat) : Int) + (y : Int)) = ((v + 1 + y : Nat) : Int) by omega]
      · have hC := @C_small (v + 1 + y) (v + 1) (by omega) (by omega)
        have hC1 := C_pos (v + 1 + y) (v + 1) (by omega)
        generalize C (v + 1 + y) (v + 1) = wh at hC hC1 ⊢
        refine ⟨_, rfl, _, rfl, _, _, rfl, rfl, _, rfl, _, rfl, _, _, rfl, rfl, (by show 4 ≤ sizeLine; decide), fun l hl => ?_⟩
        have bG6 : But [j] H G6 := bG5.trans c6
        have nlj : l ≠ j := fun z => by rw [z] at hl; exact K6.some hl
        have J7 : Jar (upd G6 l (.lst [V.int (nn : Nat), V.int ((wh : Int) - 1), V.int (wh : Nat), V.int ((wh : Int) + 1)])) j := by
          obtain ⟨a, b, hj, hJ⟩ := K6
          exact ⟨a, b, by rw [upd_ne nlj.symm]; exact hj, hJ⟩
        refine ⟨l, rfl, ⟨_, Or.inl (Or.inl upd_same)⟩, for_list (K := K) (a := l) (xs := [V.int (nn : Nat), V.int ((wh : Int) - 1), V.int (wh : Nat), V.int ((wh : Int) + 1)]) (fun m σ H' => ∃ v6 v7 v8, σ = [some (V.ref j), some (V.int ((v + 1 : Nat) : Int)), some (V.int (0 + (i : Int))), some (V.int (nn : Nat)), some (V.int (((v + 1 : Nat) : Int) + (y : Int))), some (V.int (wh : Nat)), v6, v7, v8] ∧ Jar H' j ∧ But [j] H H' ∧ H' l = some (.lst [V.int (nn : Nat), V.int ((wh : Int) - 1), V.int (wh : Nat), V.int ((wh : Int) + 1)]))
          ⟨v6, v7, v8, rfl, J7, bG6.trans (But.new hl), upd_same⟩ (fun m σ H' _ ⟨_, _, _, _, _, _, h⟩ => Or.inl (Or.inl h)) ?_ ?_⟩
        · rintro m x σ H' hx ⟨w6, w7, w8, rfl, J8, b8, h8⟩
          obtain ⟨z, rfl⟩ : ∃ z : Int, x = .int z := by
            match m, hx with
            | 0, hx => cases hx; exact ⟨_, rfl⟩
            | 1, hx => cases hx; exact ⟨_, rfl⟩
            | 2, hx => cases hx; exact ⟨_, rfl⟩
            | 3, hx => cases hx; exact ⟨_, rfl⟩
            | m + 4, hx => simp at hx
          refine ⟨_, rfl, _, _, rfl, rfl, _, rfl, iteD (fun c0 => ?_) (fun c0 => ?_)⟩
          · refine ⟨_, _, rfl, rfl, _, rfl, iteN (fun c1 => ?_) (fun c1 => ?_)⟩
            · obtain ⟨a, rfl⟩ : ∃ a : Nat, z = a := ⟨z.toNat, by omega⟩
              refine ⟨_, rfl, _, rfl, v + 1, a, rfl, by omega, by omega, by omega, fun H1' e1 => ⟨_, rfl, iteF ?_⟩⟩
              refine ⟨_, rfl, _, rfl, _, _, rfl, rfl, v + 1, a + 1, rfl, by omega, by omega, by omega, fun H2' e2 => ⟨_, rfl, iteF ?_⟩⟩
              refine ⟨_, rfl, _, rfl, ?_⟩
              dsimp only [tNil, List.cons_append, List.nil_append]
              refine shadow_use (by omega) (by omega) (by omega) fun H3' e3 => ?_
              refine ⟨_, rfl, _, rfl, _, _, rfl, rfl, ?_⟩
              dsimp only [tNil, List.cons_append, List.nil_append]
              refine shadow_use (k := v + 1) (n := a + 1) (by omega) (by omega) (by omega) fun H4' e4 => ?_
              have hs := shad_step (v + 1) a (by omega)
              have e14 := ((e1.trans e2).trans e3).trans e4
              have J9 : Jar H4' j := by
                obtain ⟨x1, x2, hj, hJ⟩ := J8
                exact ⟨x1, x2, e14 _ _ hj, hJ⟩
              refine ⟨_, _, rfl, ?_⟩
              refine ⟨_, rfl, _, rfl, _, _, rfl, rfl, _, rfl, iteD (fun c => ?_) (fun c => ?_)⟩
              · exfalso
                omega
              · refine ⟨_, rfl, _, rfl, _, rfl, _, _, rfl, rfl, _, _, rfl, rfl, _, rfl, iteD (fun c => ?_) (fun c => ?_)⟩
                · exfalso
                  omega
                · exact ⟨some (.int (a : Nat)), some (.int (shad (v + 1) a : Nat)), some (.int (shad (v + 1) (a + 1) : Nat)), rfl, J9, b8.trans (But.of e14), e14 _ _ h8⟩
            · exact ⟨some (.int z), w7, w8, rfl, J8, b8, h8⟩
          · exact ⟨_, rfl, iteT ⟨some (.int z), w7, w8, rfl, J8, b8, h8⟩⟩
        · rintro σ H' ⟨w6, w7, w8, rfl, J8, b8, h8⟩
          exact ⟨_, _, _, _, w6, w7, w8, rfl, J8, b8⟩
    · rintro σ H' ⟨v2, v3, v4, v5, v6, v7, v8, rfl, J0, b0⟩
      exact q H' J0 b0
end
end K25
end
section
set_option Elab.async false
set_option linter.all false
set_option maxRecDepth 100000
set_option maxHeartbeats 4000000
namespace LB
open PySem PySem.Spec PyProof.Rows L2 LamX
/-- a def with the address of its code -/
structure DnL (K : PySem.W.Frag) (mg : Str → Option Value) (x : Str) (st : Stmt) (ps : List Str) (c : Addr) : Prop where
  ex : ∃ (f : Addr) (oc : Value) (od : Option Addr) (dV kV doc pm : Value) (an : Option Addr) (ct : Value) (osl : Array (Option Value)),
    K.lookup f = some ⟨oc, od, .func (PySem.W.fnOf x x (defArgs st) (defBody st) (defScope st) dV kV doc pm an (.ref c) ct), osl⟩ ∧ PySem.W.codeIn K (.ref c) x = true ∧ PySem.W.keepIn K (.ref f) = true ∧ mg x = some (.ref f) ∧
    L2.Binds K (PySem.W.fnOf x x (defArgs st) (defBody st) (defScope st) dV kV doc pm an (.ref c) ct) ps []
section
variable {P : Program} {w : World} {K : PySem.W.Frag} {mg : Str → Option Value} {base : Heap}
theorem calL_of {x : Str} {st : Stmt} {N ps : List Str} {k : Nat} {sp : Sp} {c : Addr} (D : DnL K mg x st ps c) (S : FnScope N ps (defScope st)) (len : ∀ vs H Q E, sp vs H Q E → vs.length = ps.length)
    (hbody : ∀ (f : Addr) (A : Around) (outer : List Env) (s : Shared) (H : Hp) (vs : List V) (Q : VK) (E : XK), Room k (A.deeper (envOfC x (defScope st) s.heap.objs.size f (.ref c))) → sp vs H Q E →
      ∃ t, PSs (cxOf CX0 P w K mg base N x (defScope st) f (.ref c) A outer s H E).nox (defBody st) t ∧ t { nx := fun _ H' => Q .non H', rt := Q } (start N vs) H) : Cal P w K mg base (k + 1) x sp := by
  obtain ⟨f, oc, od, dV, kV, doc, pm, an, ct, osl, lk, hcd, hk, hm, hb⟩ := D.ex
  refine ⟨f, _, ps, fn_of lk hcd S len fun A outer s H vs Q E hr hsp => ?_, hm, hk, hb⟩
  obtain ⟨t, h, q⟩ := hbody f A outer s H vs Q E hr hsp
  exact ⟨t, h.nox, q⟩
end
theorem lots_map {α β : Type} (f : α → β) (xs : List α) : lots (xs.map f) = (lots xs).map (List.map f) := by
  have key : ∀ (xs : List α) (acc : List (List α)), (xs.map f).foldl (fun g x => g ++ g.map (· ++ [x])) (acc.map (List.map f)) = ((xs.foldl (fun g x => g ++ g.map (· ++ [x])) acc).map (List.map f)) := by
    intro xs
    induction xs with
    | nil => intro acc; rfl
    | cons x xs ih =>
      intro acc
      rw [List.map_cons, List.foldl_cons, List.foldl_cons, ← ih]
      congr 1
      rw [List.map_append, List.map_map, List.map_map]
      congr 1
      apply List.map_congr_left
      intro l _
      show List.map f l ++ [f x] = List.map f (l ++ [x])
      rw [List.map_append]
      rfl
  exact key xs [[]]
/-- what goes beside one another is sorted alike -/
def byK {α : Type} (xs : List α) (kz : List PyData) : List α := ((xs.zip kz).mergeSort (PySem.W.dataLe false Prod.snd)).map Prod.fst
theorem paired_zip {α β : Type} {R : α → β → Prop} : ∀ {xs : List α} {ys : List β}, Paired R xs ys → ∃ zs : List (α × β), zs.map Prod.fst = xs ∧ zs.map Prod.snd = ys ∧ ∀ z ∈ zs, R z.1 z.2
  | _, _, .nil => ⟨[], rfl, rfl, fun z h => by cases h⟩
  | _, _, .cons (a := a) (b := b) h t => by
    obtain ⟨zs, h1, h2, h3⟩ := paired_zip t
    refine ⟨(a, b) :: zs, by rw [List.map_cons, h1], by rw [List.map_cons, h2], fun z hz => ?_⟩
    rcases List.mem_cons.mp hz with e | e
    · subst e
      exact h
    · exact h3 z e
theorem zip_paired {α β : Type} {R : α → β → Prop} : ∀ {zs : List (α × β)}, (∀ z ∈ zs, R z.1 z.2) → Paired R (zs.map Prod.fst) (zs.map Prod.snd)
  | [], _ => .nil
  | z :: zs, h => .cons (h z List.mem_cons_self) (zip_paired fun y hy => h y (List.mem_cons_of_mem _ hy))
theorem byK_map {α β : Type} (f : α → β) (zs : List α) (kz : List PyData) : byK (zs.map f) kz = (byK zs kz).map f := by
  unfold byK
  have e : (zs.map f).zip kz = (zs.zip kz).map (fun p => (f p.1, p.2)) := by
    rw [List.zip_map_left]
    rfl
  rw [e, ← PySem.W.sort_maps (r := PySem.W.dataLe false Prod.snd) (fun p : α × PyData => (f p.1, p.2)) (fun a _ b _ => rfl), List.map_map, List.map_map]
  rfl
theorem byK_paired {α β : Type} {R : α → β → Prop} {xs : List α} {ys : List β} (h : Paired R xs ys) (kz : List PyData) (hl : kz.length = xs.length) : Paired R (byK xs kz) (byK ys kz) := by
  obtain ⟨zs, rfl, rfl, h3⟩ := paired_zip h
  rw [byK_map, byK_map]
  refine zip_paired fun z hz => h3 z ?_
  unfold byK at hz
  obtain ⟨p, hp, rfl⟩ := List.mem_map.mp hz
  have hp' := (List.mergeSort_perm _ _).mem_iff.mp hp
  exact (List.of_mem_zip hp').1
theorem dataLe_trows {β : Type} (x : β → List Int) : PySem.W.dataLe false (fun b => .tuple ((x b).map .int)) = fun p q => decide (x p ≤ x q) := by
  funext p q
  show (!PySem.W.dataLt (.tuple ((x q).map .int)) (.tuple ((x p).map .int))) = _
  rw [PySem.W.dataLt_tuple]
  show (!PySem.W.rowLt ((x q).map .int) ((x p).map .int)) = _
  rw [PySem.W.dataLt_ints]
  by_cases h : x q < x p
  · have h' : ¬ x p ≤ x q := fun r => List.not_lt.mpr r h
    simp [h, h']
  · have h' : x p ≤ x q := List.not_lt.mp h
    simp [h, h']
/-- rows sorted by what they are turned about -/
theorem byK_turned {rows z : List (List Int)} (p : z.Perm rows) (s : z.Pairwise fun a b => a.reverse ≤ b.reverse) : byK rows (rows.map fun r => .tuple (r.reverse.map .int)) = z := by
  have e : byK rows (rows.map fun r => PyData.tuple (r.reverse.map .int)) = rows.mergeSort (fun a b => decide (a.reverse ≤ b.reverse)) := by
    unfold byK
    have e1 : rows.zip (rows.map fun r => PyData.tuple (r.reverse.map .int)) = rows.map fun r => (r, PyData.tuple (r.reverse.map .int)) := by
      have : ∀ l : List (List Int), l.zip (l.map fun r => PyData.tuple (r.reverse.map .int)) = l.map fun r => (r, PyData.tuple (r.reverse.map .int)) := by
        intro l
        induction l with
        | nil => rfl
        | cons r l ih => rw [List.map_cons, List.map_cons, List.zip_cons_cons, ih]
      exact this rows
    rw [e1, ← PySem.W.sort_maps (r := fun a b => decide (a.reverse ≤ b.reverse)) (s := PySem.W.dataLe false Prod.snd) (fun r : List Int => (r, PyData.tuple (r.reverse.map .int))) (fun a _ b _ => ?_), List.map_map]
    · show List.map (fun r => r) _ = _
      rw [List.map_id']
    · have := congrFun (congrFun (dataLe_trows (fun r : List Int => r.reverse)) a) b
      exact this.symm
  rw [e]
  have hs := List.pairwise_mergeSort (le := fun a b : List Int => decide (a.reverse ≤ b.reverse)) (fun a b c h1 h2 => by
    have h1' := of_decide_eq_true h1
    have h2' := of_decide_eq_true h2
    exact decide_eq_true (List.le_trans h1' h2')) (fun a b => by
    rcases List.le_total a.reverse b.reverse with h | h
    · simp [h]
    · simp [h]) rows
  refine List.Perm.eq_of_pairwise (le := fun a b : List Int => a.reverse ≤ b.reverse) (fun a b _ _ h1 h2 => ?_) (hs.imp fun h => of_decide_eq_true h) s ((List.mergeSort_perm _ _).trans p.symm)
  have := List.le_antisymm h1 h2
  rw [← List.reverse_reverse a, this, List.reverse_reverse]
theorem alike_ints : ∀ xs ys : List Int, PySem.W.alikeAll (xs.map .int) (ys.map .int) = true
  | [], ys => by cases ys <;> simp [PySem.W.alikeAll]
  | x :: xs, [] => by simp [PySem.W.alikeAll]
  | x :: xs, y :: ys => by
    rw [List.map_cons, List.map_cons]
    simp [PySem.W.alikeAll, PySem.W.alike, alike_ints xs ys]
end LB
end
section
set_option Elab.async false
set_option linter.all false
set_option maxRecDepth 100000
set_option maxHeartbeats 4000000
namespace K25
open PySem PySem.Spec PyProof.Rows L2 LB LamX
def mIn (m : Nat) : List Int := (List.range m).map fun (i : Nat) => 1 + (i : Int)
def lotsI (m k : Nat) : List (List Int) := (lots (mIn m)).filter fun l => decide (l.length = k)
abbrev vI (l : List Int) : List V := l.map V.int
def spSets (K : PySem.W.Frag) (TT : List (Addr × Str)) : Sp := fun vs H Q _ => ∃ (k m : Nat) (z : List (List Int)), vs = [.int (k : Nat), .int (m : Nat)] ∧ 1 ≤ k ∧ m ≤ 11 ∧ z.Perm (lotsI m k) ∧ (z.Pairwise fun a b => a.reverse ≤ b.reverse) ∧ Tabs TT H ∧
  ∀ (p : Addr) (H' : Hp) (items : List V), ExtN H H' → Tabs TT H' → H' p = some (.lst items) → TupAll K H' items (z.map vI) → Q (.ref p) H'
theorem rgV_mIn (m : Nat) : rgV 1 ((m : Int) + 1) = vI (mIn m) := by
  unfold rgV vI mIn
  rw [List.map_map]
  have e : ((m : Int) + 1 - 1).toNat = m := by omega
  rw [e]
  rfl
theorem depthAll_ints : ∀ l : List Int, PyData.depthAll (l.map .int) = 0
  | [] => by simp [PyData.depthAll]
  | x :: l => by
    rw [List.map_cons]
    simp [PyData.depthAll, PyData.depth, depthAll_ints l]
theorem depth_ints (l : List Int) : PyData.depth (.tuple (l.map .int)) = 1 := by
  simp [PyData.depth, depthAll_ints]
section
variable {P : Program} {w : World} {K : PySem.W.Frag} {mg : Str → Option Value} {base : Heap} {CB : Addr}
theorem ok_ca_sets {c PT : Addr} {TT : List (Addr × Str)} (D : DnL K mg "_law_ca_sets" s_law_ca_sets ["k", "many"] c) (T : Bt mg) (TB : TabB base mg c PT) (hmT : (PT, (("_law_ca_sets.<locals>.<lambda>" : Str))) ∈ TT) (hu : ∀ p ∈ TT, p.1 = PT → p.2 = "_law_ca_sets.<locals>.<lambda>")
    (f_law_lots_of : Cal P w K mg base 1 "_law_lots_of" (spLots K)) : Cal P w K mg base 4 "_law_ca_sets" (spSets K TT) := by
  refine calL_of D sc_law_ca_sets (fun vs H Q E h => ?_) (fun f A outer s H vs Q E hr h => ?_)
  · obtain ⟨k, m, z, rfl, _⟩ := h
    rfl
  · obtain ⟨k, m, z, rfl, hk, hm, hz, hpw, hT, q⟩ := h
    refine ⟨_, (pss_cons (ps_setLc (i := 2) rfl sc_law_ca_sets.nd rfl rfl (sw_true rfl rfl rfl (by decide +kernel)) (own := [("lot", 3)]) (pi_list (LB.pe_c f_law_lots_of hr (by decide) (by rfl) (pa_cons (pe_listRg rfl (by rfl) T.m_list (prg_2 (by rfl) T.m_range pe_int (pe_op op_add (pv 1) pe_int))) pa_nil))) (blkOk_by (N := ["k", "many", "found", "lot"]) (sc := defScope s_law_ca_sets) (by decide +kernel)) (fun _ _ _ _ _ => (pg_name (i := 3) sc_law_ca_sets.nd rfl (Or.inl rfl))) (fun _ _ _ _ _ => (pts_one (pt_cmpR op_eq (pe_callB (callK_len (K := K) rfl) (by rfl) T.m_len PySem.boot_len (pa_cons (pv 3) pa_nil)) (pv 0) (nomark _)))) (fun _ _ _ _ _ => (pv 3)))
      (pss_one (ps_ret (LB.pe_sortKey (T := TT) (i := 3) (k := 0) (tb := tRevT K (tVar 3)) (by rfl) T.m_sorted (pv 2) (lamP_by (by show lamPB (defScope s_law_ca_sets) _ _ = true; decide +kernel)) sc_law_ca_sets.nd rfl TB rfl hmT hu hr (by rfl) (fun _ _ _ _ _ _ => rfl) (fun _ _ _ _ _ _ => pe_revT (pv 3)))))), ?_⟩
    refine ⟨_, rfl, _, _, rfl, rfl, _, _, rfl, rfl, RgOk.of_le (by decide) (by omega) (by decide) (by omega), fun r hr1 => ?_⟩
    refine ⟨r, _, rfl, Or.inl (Or.inl upd_same), by rw [rgV_length]; omega, fun a H1 items ha0 e1 ha hall => ?_⟩
    rw [rgV_mIn, vI, lots_map] at hall
    have e01 : Evl.Ex H H1 := (Evl.Ex.new hr1).trans e1
    refine ⟨a, rfl, ⟨items, Or.inl (Or.inl ha)⟩, fun Dl hD => lc_list (K := K) (a := a) (xs := items) (fun n H2 => Evl.Ex H1 H2 ∧ ∃ acc, H2 Dl = some (.lst acc) ∧ TupAll K H1 acc ((((lots (mIn m)).take n).filter fun l => decide (l.length = k)).map vI)) ⟨Evl.Ex.new hD, [], upd_same, .nil⟩ (fun n H2 _ ⟨e2, _⟩ => Or.inl (Or.inl (e2 _ _ ha))) ?_ ?_⟩
    · rintro n x H2 hx ⟨e2, acc, h2, hacc⟩
      obtain ⟨t, ys, rfl, hys, hst⟩ := hall.get hx
      obtain ⟨row, hrow, rfl⟩ : ∃ row, (lots (mIn m))[n]? = some row ∧ row.map V.int = ys := by
        rw [List.getElem?_map] at hys
        exact Option.map_eq_some_iff.mp hys
      refine ⟨rfl, _, rfl, t, _, rfl, Or.inr (Evl.ex_t e2 hst), _, rfl, rfl, _, rfl, iteD (fun c0 => ?_) (fun c0 => ?_)⟩
      · have hl : row.length = k := by
          have := V.int.inj c0
          rw [List.length_map] at this
          omega
        have hlen := hacc.len
        have hsz : acc.length ≤ 2048 := by
          rw [hlen, List.length_map]
          refine Nat.le_trans (List.length_filter_le _ _) ?_
          rw [List.length_take, lots_len]
          have h11 : 2 ^ (mIn m).length ≤ 2 ^ 11 := Nat.pow_le_pow_right (by decide) (by unfold mIn; rw [List.length_map, List.length_range]; exact hm)
          exact Nat.le_trans (Nat.min_le_right _ _) h11
        refine ⟨_, rfl, acc, h2, Evl.sz_lt (by omega), e2.mut (p := Dl) hD, acc ++ [.ref t], upd_same, ?_⟩
        rw [take_snoc hrow, List.filter_append, List.map_append]
        refine hacc.app ?_
        rw [List.filter_cons, if_pos (by rw [decide_eq_true hl]), List.filter_nil]
        exact .cons ⟨t, rfl, hst⟩ .nil
      · have hl : ¬ row.length = k := fun z0 => c0 (by rw [List.length_map, z0])
        refine ⟨e2, acc, h2, ?_⟩
        rw [take_snoc hrow, List.filter_append, List.filter_cons, if_neg (by rw [decide_eq_false hl]; decide), List.filter_nil, List.append_nil]
        exact hacc
    · rintro H2 ⟨e2, acc, h2, hacc⟩
      have hil : items.length = (lots (mIn m)).length := by rw [hall.len, List.length_map]
      rw [hil, List.take_length] at hacc
      have hacc1 : TupAll K H1 acc ((lotsI m k).map vI) := hacc
      have hz1 : ∀ l ∈ lotsI m k, l.length = k ∧ l.length ≤ 11 := fun l hl => by
        obtain ⟨h1, h3⟩ := List.mem_filter.mp hl
        have := lots_size l h1
        unfold mIn at this
        rw [List.length_map, List.length_range] at this
        exact ⟨of_decide_eq_true h3, by omega⟩
      have key : ∀ d ∈ (lotsI m k).map (fun r => PyData.tuple (r.reverse.map .int)), ∃ l ∈ lotsI m k, d = .tuple (l.reverse.map .int) := fun d hd => by
        obtain ⟨l, h1, h3⟩ := List.mem_map.mp hd
        exact ⟨l, h1, h3.symm⟩
      have e02 : Evl.Ex H H2 := e01.trans e2
      refine ⟨_, rfl, hT.ext e02, Dl, acc, (lotsI m k).map (fun r => PyData.tuple (r.reverse.map .int)), rfl, Or.inl (Or.inl h2), ?_, ?_, ?_, ?_, ?_, ?_⟩
      · rw [hacc1.len, List.length_map, List.length_map]
      · intro d hd d' hd'
        obtain ⟨l, _, rfl⟩ := key d hd
        obtain ⟨l', _, rfl⟩ := key d' hd'
        rw [PySem.W.alike]
        exact alike_ints _ _
      · refine Or.inl fun d hd => ?_
        obtain ⟨l, hl, rfl⟩ := key d hd
        have h1 := (hz1 l hl).1
        have hne : l.reverse.length = k := by rw [List.length_reverse]; exact h1
        cases hr2 : l.reverse with
        | nil =>
          rw [hr2] at hne
          have : k = 0 := hne.symm
          omega
        | cons x r => exact ⟨_, _, rfl⟩
      · intro d hd
        obtain ⟨l, hl, rfl⟩ := key d hd
        rw [depth_ints]
        decide
      · intro j v d hv hd H3 e3
        obtain ⟨t, ys, rfl, hys, hst⟩ := hacc1.get hv
        rw [List.getElem?_map] at hys hd
        obtain ⟨row, hrow, rfl⟩ := Option.map_eq_some_iff.mp hys
        rw [hrow] at hd
        cases hd
        refine ⟨_, rfl, t, _, rfl, extN_t e3 (Evl.ex_t e2 hst), fun p hp => ⟨Evl.Ex.new hp, .tup (Or.inl (Or.inl upd_same)) ?_⟩⟩
        rw [vI, ← List.map_reverse]
        exact dpAll_ints _
      · intro p H3 e3 T3 hp
        have hb : Paired (fun v ys => ∃ t, v = .ref t ∧ SqT K H1 t ys) (byK acc ((lotsI m k).map (fun r => PyData.tuple (r.reverse.map .int)))) (byK ((lotsI m k).map vI) ((lotsI m k).map (fun r => PyData.tuple (r.reverse.map .int)))) := byK_paired hacc1 _ (by rw [hacc1.len, List.length_map, List.length_map])
        rw [byK_map, byK_turned hz hpw] at hb
        have eN : ExtN H (upd H3 p (.lst (byKey acc ((lotsI m k).map (fun r => PyData.tuple (r.reverse.map .int)))))) := ((ExtN.of e02).trans e3).trans (ExtN.of (Evl.Ex.new hp))
        refine q p _ _ eN (T3.ext (Evl.Ex.new hp)) upd_same ?_
        exact Paired.mapP hb fun v ys ⟨t, h1, h3⟩ => ⟨t, h1, Evl.ex_t (Evl.Ex.new hp) (extN_t e3 (Evl.ex_t e2 h3))⟩
end
end K25
end
section
set_option Elab.async false
set_option linter.all false
set_option maxRecDepth 100000
set_option maxHeartbeats 4000000
namespace LB
open PySem PySem.Spec PyProof.Rows L2 LamX Evl
section
variable {K : PySem.W.Frag} {H : Hp} {Q : VK}
theorem sl_new {a : Addr} {xs : List V} {lo hi : Option Int} (S : SqT K H a xs) (nw : ¬ (HT.sIx xs.length 0 lo = 0 ∧ HT.sIx xs.length xs.length hi = xs.length)) (q : ∀ p, H p = none → Q (.ref p) (upd H p (.tup (cutV xs lo hi)))) : rSlA K (.ref a) lo hi H Q :=
  ⟨a, xs, rfl, S, fun e => absurd e nw, fun _ => q⟩
theorem cat_new {a b : Addr} {xs ys : List V} (h1 : H a = some (.tup xs)) (h2 : H b = some (.tup ys)) (hz : xs.length + ys.length ≤ 100000) (q : ∀ c H', Ex H H' → (∀ p, H' p = none → H p = none) → H' c = some (.tup (xs ++ ys)) → Q (.ref c) H') : rCatA K (.ref a) (.ref b) H Q := by
  refine ⟨a, b, xs, ys, rfl, rfl, Or.inl (Or.inl h1), Or.inl (Or.inl h2), sz_of hz, fun e => ?_, fun _ e => ?_, fun _ _ p hp => ?_⟩
  · subst e
    exact q b H (Ex.refl H) (fun _ h => h) h2
  · subst e
    exact q a H (Ex.refl H) (fun _ h => h) (by rw [List.append_nil]; exact h1)
  · exact q p _ (Ex.new hp) (fun x hx => fresh_back (Ex.new hp) hx) upd_same
theorem whole_not1 {n i : Nat} (h : i < n) : ¬ (HT.sIx n 0 none = 0 ∧ HT.sIx n n (some (i : Int)) = n) := by
  rw [HT.sIx_none, HT.sIx_nat]
  intro z
  have := z.2
  omega
theorem whole_not2 {n i : Nat} (h : 1 ≤ n) (h0 : 1 ≤ i) : ¬ (HT.sIx n 0 (some (i : Int)) = 0 ∧ HT.sIx n n none = n) := by
  rw [HT.sIx_none, HT.sIx_nat]
  intro z
  have := z.1
  omega
end
theorem putK_ne {kvs : List (List Key × V)} {k : List Key} {v : V} : putK kvs k v ≠ [] := by
  unfold putK
  split
  · rename_i h
    intro z
    rw [List.map_eq_nil_iff] at z
    rw [z] at h
    cases h
  · simp
theorem mergeT_ne : ∀ {more kvs : List (List Key × V)}, kvs ≠ [] → mergeT kvs more ≠ []
  | [], _, h => h
  | p :: r, kvs, _ => mergeT_ne (more := r) putK_ne
theorem mergeT_ne2 : ∀ {more kvs : List (List Key × V)}, more ≠ [] → mergeT kvs more ≠ []
  | [], _, h => absurd rfl h
  | p :: r, kvs, _ => mergeT_ne (more := r) putK_ne
end LB
namespace K25
open PySem PySem.Spec PyProof.Rows L2 LB LamX Evl
def keyI (l : List Int) : List Key := l.map Sum.inl
theorem keyI_V (l : List Int) : (keyI l).map kV = vI l := by
  unfold keyI
  rw [List.map_map]
  rfl
def facesI (l : List Int) : List (List Int) := (List.range l.length).map fun a => l.take a ++ l.drop (a + 1)
def rowsF (l : List Int) : List (List Key × V) := (facesI l).map fun f => (keyI f, .bl true)
def stepB (kvs : List (List Key × V)) (l : List Int) : List (List Key × V) := mergeT kvs (mergeT [] (rowsF l))
def below (z : List (List Int)) : Nat := (z.foldl stepB []).length
theorem rowsF_len (l : List Int) : (rowsF l).length = l.length := by
  unfold rowsF facesI
  rw [List.length_map, List.length_map, List.length_range]
theorem stepB_len (z : List (List Int)) (h : ∀ l ∈ z, l.length ≤ 8) : ∀ kvs, (z.foldl stepB kvs).length ≤ kvs.length + 8 * z.length := by
  induction z with
  | nil => intro kvs; exact Nat.le_refl _
  | cons l z ih =>
    intro kvs
    have h1 := ih (fun y hy => h y (List.mem_cons_of_mem _ hy)) (stepB kvs l)
    have h2 := h l List.mem_cons_self
    have h3 : (stepB kvs l).length ≤ kvs.length + 8 := by
      unfold stepB
      have h4 := length_mergeT (mergeT [] (rowsF l)) kvs
      have h5 := length_mergeT (rowsF l) []
      rw [rowsF_len] at h5
      simp only [List.length_nil] at h5
      omega
    rw [List.foldl_cons, List.length_cons]
    omega
theorem foldB_ne {z : List (List Int)} (h : ∀ l ∈ z, l ≠ []) : ∀ {kvs}, (kvs ≠ [] ∨ z ≠ []) → z.foldl stepB kvs ≠ [] := by
  induction z with
  | nil => intro kvs q; exact q.elim (fun x => x) (fun x => absurd rfl x)
  | cons l z ih =>
    intro kvs _
    rw [List.foldl_cons]
    refine ih (fun y hy => h y (List.mem_cons_of_mem _ hy)) (Or.inl ?_)
    refine mergeT_ne2 (mergeT_ne2 ?_)
    intro e
    have := rowsF_len l
    rw [e] at this
    exact h l List.mem_cons_self (List.length_eq_zero_iff.mp this.symm)
def spBelow (P : Program) (w : World) (K : PySem.W.Frag) : Sp := fun vs H Q _ => ∃ (a : Addr) (items : List V) (z : List (List Int)), vs = [.ref a] ∧ SqL K H a items ∧ TupAll K H items (z.map vI) ∧ z.length ≤ 100 ∧ (∀ l ∈ z, l ≠ [] ∧ l.length ≤ 8) ∧
  (∀ l, z.head? = some l → ((mergeT [] (rowsF l)).map fun x => (tupleKind (mixKind P w)).hash x.1).Nodup) ∧ ∀ H', Ex H H' → Q (.int (below z : Nat)) H'
section
variable {P : Program} {w : World} {K : PySem.W.Frag} {mg : Str → Option Value} {base : Heap} {CB : Addr}
theorem ok_ca_below (D : Dn K mg "_law_ca_below" s_law_ca_below ["lot"]) (T : Bt mg) : Cal P w K mg base 1 "_law_ca_below" (spBelow P w K) := by
  refine cal_of D sc_law_ca_below (fun vs H Q E h => ?_) (fun f cdv A outer s H vs Q E hr h => ?_)
  · obtain ⟨a, items, z, rfl, _⟩ := h
    rfl
  · obtain ⟨a, items, z, rfl, S, ha, hzl, hz, hh, q⟩ := h
    have hu : (A.deeper (envOfC "_law_ca_below" (defScope s_law_ca_below) s.heap.objs.size f cdv)).units + 5 < cLine := by
      have := hr.un
      omega
    refine ⟨_, (pss_cons (ps_set (i := 1) sc_law_ca_below.nd rfl (Or.inl rfl) pe_dnewT)
      (pss_cons (ps_for PassesOwn.never rfl (pi_list (pv 0)) (pg_name (i := 2) sc_law_ca_below.nd rfl (Or.inr rfl)) (pss_one (ps_expr (pe_dupT hu (pv 1) (pe_callTy (call_dictT rfl hu) (by rfl) T.m_dict (by decide +kernel) (pa_cons (pe_lc (own := [("at", 3)]) rfl sc_law_ca_below.nd (pi_range1 (by rfl) T.m_range (pa_cons (pe_callB call_len_seq (by rfl) T.m_len PySem.boot_len (pa_cons (pv 2) pa_nil)) pa_nil)) (blkOk_by (N := ["lot", "found", "one", "at"]) (sc := defScope s_law_ca_below) (by decide +kernel)) (fun _ _ _ _ _ => (pg_name (i := 3) sc_law_ca_below.nd rfl (Or.inl rfl))) (fun _ _ _ _ _ => pts_nil)
        (fun _ _ _ _ _ => (pe_tup (pa_cons (pe_op (opK_cat (K := K) rfl) (pe_slice (slK_tup (K := K) rfl) (pv 2) po_none (po_some (pv 3))) (pe_slice (slK_tup (K := K) rfl) (pv 2) (po_some (pe_op op_add (pv 3) pe_int)) po_none)) (pa_cons pe_bl pa_nil))))) pa_nil)) ⟨rfl, rfl, rfl, rfl⟩))))
      (pss_one (ps_ret (pe_callB call_len_dT (by rfl) T.m_len PySem.boot_len (pa_cons (pv 1) pa_nil)))))), ?_⟩
    intro D0 hD0
    refine ⟨_, rfl, a, rfl, ⟨items, Evl.ex_l (Ex.new hD0) S⟩, for_list (K := K) (a := a) (xs := items) (fun i σ H' => ∃ v2, σ = [some (V.ref a), some (V.ref D0), v2, none] ∧ Ex H H' ∧ H' D0 = some (.dT ((z.take i).foldl stepB []))) ⟨none, rfl, Ex.new hD0, upd_same⟩ (fun i σ H' _ ⟨_, _, e, _⟩ => Evl.ex_l e S) ?_ ?_⟩
    · rintro i x σ H' hx ⟨v2, rfl, e, hd⟩
      obtain ⟨t, ys, rfl, hys, hst0⟩ := ha.get hx
      obtain ⟨l, hl, rfl⟩ : ∃ l, z[i]? = some l ∧ vI l = ys := by
        rw [List.getElem?_map] at hys
        exact Option.map_eq_some_iff.mp hys
      obtain ⟨hne, hl8⟩ := hz l (List.mem_of_getElem? hl)
      have hst : SqT K H' t (vI l) := Evl.ex_t e hst0
      have hvl : (vI l).length = l.length := List.length_map ..
      refine ⟨_, rfl, D0, rfl, Or.inr ⟨_, Or.inl hd⟩, _, rfl, t, _, rfl, Or.inr hst, _, rfl, by omega, by omega, fun Dl hDl => lc_range (lo := 0) (n := ((vI l).length : Int).toNat) (fun n H2 => Ex H' H2 ∧ ∃ ps : List Addr, H2 Dl = some (.lst (ps.map V.ref)) ∧ RowsT K (cut [Dl] H2) ps ((rowsF l).take n))
        ⟨Ex.new hDl, [], upd_same, .nil⟩ ?_ ?_⟩
      · rintro n H2 hn ⟨e2, ps, h2, hps⟩
        have hn' : n < l.length := by omega
        refine ⟨rfl, _, rfl, _, rfl, _, rfl, ?_⟩
        rw [Int.zero_add]
        refine sl_new (Evl.ex_t e2 hst) (by rw [hvl]; exact whole_not1 hn') fun p1 hp1 => ?_
        refine ⟨_, rfl, _, rfl, _, _, rfl, rfl, _, rfl, ?_⟩
        have e3 : Ex H2 (upd H2 p1 (.tup (cutV (vI l) none (some (n : Int))))) := Ex.new hp1
        rw [show ((n : Nat) : Int) + 1 = ((n + 1 : Nat) : Int) by omega]
        dsimp only [tNoPart]
        refine sl_new (Evl.ex_t (e2.trans e3) hst) (by rw [hvl]; exact whole_not2 (i := n + 1) (by omega) (by omega)) fun p2 hp2 => ?_
        have e4 := Ex.new (o := .tup (cutV (vI l) (some ((n + 1 : Nat) : Int)) none)) hp2
        have np : p1 ≠ p2 := fun z0 => by rw [← z0, upd_same] at hp2; cases hp2
        refine cat_new (xs := cutV (vI l) none (some (n : Int))) (ys := cutV (vI l) (some ((n + 1 : Nat) : Int)) none) (by rw [upd_ne np, upd_same]) upd_same ?_ fun c H3 e5 f5 hc => ?_
        · rw [cutV_to, cutV_from, List.length_take, List.length_drop, hvl]
          omega
        refine ⟨(by show 2 ≤ sizeLine; decide), fun u hu => ?_⟩
        have e23 : Ex H2 H3 := (e3.trans e4).trans e5
        have e26 : Ex H2 (upd H3 u (.tup [.ref c, .bl true])) := e23.trans (Ex.new hu)
        have hlen := Paired.length hps
        have ncD : c ≠ Dl := fun z0 => by
          have h3 := e23 _ _ h2
          rw [← z0, hc] at h3
          cases h3
        have nuD : u ≠ Dl := fun z0 => by rw [z0, e23 _ _ h2] at hu; cases hu
        have ncu : c ≠ u := fun z0 => by rw [z0] at hc; rw [hc] at hu; cases hu
        have hpl : ps.length ≤ 8 := by
          rw [hlen, List.length_take]
          have := rowsF_len l
          omega
        refine ⟨ps.map V.ref, e26 _ _ h2, Evl.sz_lt (by rw [List.length_map]; omega), (e2.trans e26).mut (p := Dl) hDl, ps ++ [u], ?_, ?_⟩
        · rw [upd_same, List.map_append]
          rfl
        · have hrow : (rowsF l)[n]? = some (keyI (l.take n ++ l.drop (n + 1)), V.bl true) := by
            unfold rowsF facesI
            rw [List.map_map, List.getElem?_map, List.getElem?_range hn']
            rfl
          rw [take_snoc hrow]
          refine Paired.snoc (hps.up ?_) ⟨c, Or.inl (Or.inl ?_), ?_⟩
          · exact But.cut ((But.of e26).trans (But.put (by simp)))
          · rw [cut_out (by simpa using nuD), upd_ne nuD, upd_same]
          · rw [cut_out (by simpa using ncD), upd_ne ncD, upd_ne ncu, hc, keyI_V, cutV_to, cutV_from]
            show some (HO.tup (List.take n (l.map V.int) ++ List.drop (n + 1) (l.map V.int))) = some (HO.tup ((l.take n ++ l.drop (n + 1)).map V.int))
            rw [List.map_append, List.map_take, List.map_drop]
      · rintro H2 ⟨e2, ps, h2, hps⟩
        have hfull : (rowsF l).take ((vI l).length : Int).toNat = rowsF l := List.take_of_length_le (by rw [rowsF_len, hvl]; omega)
        rw [hfull] at hps
        have hps2 : RowsT K H2 ps (rowsF l) := hps.up ex_cut
        refine ⟨Dl, ps, rowsF l, rfl, Or.inl (Or.inl h2), hps2, fun d hd0 => ?_⟩
        have h20 := e2 _ _ hd
        have nD : D0 ≠ d := ne_of_none h20 hd0
        have hcl := stepB_len (z.take i) (fun y hy => (hz y (List.mem_of_mem_take hy)).2) []
        have hml := length_mergeT (rowsF l) []
        rw [rowsF_len] at hml
        rw [List.length_take] at hcl
        simp only [List.length_nil] at hcl hml
        refine ⟨d, (z.take i).foldl stepB [], mergeT [] (rowsF l), rfl, nD, by rw [upd_ne nD]; exact h20, upd_same, Evl.sz_of (by omega), ?_, ?_⟩
        · by_cases hi : i = 0
          · subst hi
            exact Or.inr (hh l (by rw [List.head?_eq_getElem?]; exact hl))
          · refine Or.inl (foldB_ne (fun y hy => (hz y (List.mem_of_mem_take hy)).1) (Or.inr ?_))
            intro z0
            have hi2 : i < z.length := (List.getElem?_eq_some_iff.mp hl).1
            have := congrArg List.length z0
            rw [List.length_take] at this
            simp only [List.length_nil] at this
            omega
        · refine ⟨some (.ref t), rfl, ?_, ?_⟩
          · exact Ex.mut ((e.trans e2).trans (Ex.new hd0)) hD0
          · rw [upd_same, take_snoc hl, List.foldl_append]
            rfl
    · rintro σ H' ⟨v2, rfl, e, hd⟩
      have hil : items.length = z.length := by rw [ha.len, List.length_map]
      rw [hil, List.take_length] at hd
      exact ⟨_, rfl, D0, _, rfl, hd, q H' e⟩
end
end K25
end
section
set_option Elab.async false
set_option linter.all false
set_option maxRecDepth 100000
set_option maxHeartbeats 4000000
namespace K25
open PySem PySem.Spec PyProof.Rows L2 LB LamX Evl
def hI (ks : List Int) : Int := reduceHash (Builtin.Tuple.tupleHashOf (ks.map hashInt))
theorem hash_keyI (P : Program) (w : World) (l : List Int) : (tupleKind (mixKind P w)).hash (keyI l) = hI l := by
  show reduceHash (Builtin.Tuple.tupleHashOf ((l.map Sum.inl).map (mixKind P w).hash)) = _
  rw [List.map_map]
  rfl
theorem hash_rows (P : Program) (w : World) {l : List Int} (h1 : mergeT [] (rowsF l) = rowsF l) (h2 : ((facesI l).map hI).Nodup) : ((mergeT [] (rowsF l)).map fun x => (tupleKind (mixKind P w)).hash x.1).Nodup := by
  rw [h1]
  have e : ((rowsF l).map fun x => (tupleKind (mixKind P w)).hash x.1) = (facesI l).map hI := by
    unfold rowsF
    rw [List.map_map]
    exact List.map_congr_left fun f _ => hash_keyI P w f
  rw [e]
  exact h2
/-! what stands in the table of names -/
def namesV (nm : List (List Int)) : List (List Key × V) := nm.zipIdx.map fun p => (keyI p.1, V.int (p.2 : Nat))
theorem keyI_inj {a b : List Int} (h : keyI a = keyI b) : a = b := by
  unfold keyI at h
  exact (List.map_inj_right (fun x y e => by injection e)).mp h
theorem valV_from (f : List Int) : ∀ (nm : List (List Int)) (n : Nat), valV ((nm.zipIdx n).map fun p => (keyI p.1, V.int ((p.2 : Nat) : Int))) (keyI f) = if f ∈ nm then some (V.int ((n + nm.idxOf f : Nat) : Int)) else none
  | [], n => rfl
  | x :: nm, n => by
    rw [List.zipIdx_cons, List.map_cons]
    by_cases h : x = f
    · subst h
      rw [valV_pos rfl, if_pos List.mem_cons_self, List.idxOf_cons_self]
      rfl
    · rw [valV_neg (fun z => h (keyI_inj z)), valV_from f nm (n + 1)]
      by_cases g : f ∈ nm
      · rw [if_pos g, if_pos (List.mem_cons_of_mem _ g), show List.idxOf f (x :: nm) = nm.idxOf f + 1 from by rw [List.idxOf_cons, beq_false_of_ne h]; rfl]
        rw [show n + 1 + nm.idxOf f = n + (nm.idxOf f + 1) by omega]
      · rw [if_neg g, if_neg (by simp only [List.mem_cons, not_or]; exact ⟨fun z => h z.symm, g⟩)]
theorem valV_names (f : List Int) (nm : List (List Int)) : valV (namesV nm) (keyI f) = if f ∈ nm then some (V.int ((nm.idxOf f : Nat) : Int)) else none := by
  have := valV_from f nm 0
  rw [Nat.zero_add] at this
  exact this
theorem namesV_len (nm : List (List Int)) : (namesV nm).length = nm.length := by
  unfold namesV
  rw [List.length_map, List.length_zipIdx]
theorem namesV_put {f : List Int} {nm : List (List Int)} (h : f ∉ nm) : putK (namesV nm) (keyI f) (V.int ((nm.length : Nat) : Int)) = namesV (nm ++ [f]) := by
  rw [putK_new _ (by rw [valV_names, if_neg h])]
  unfold namesV
  rw [List.zipIdx_append, List.map_append, Nat.zero_add]
  rfl
/-! what the law's account of sets comes to -/
def nameStep (nm : List (List Int)) (f : List Int) : List (List Int) := if f ∈ nm then nm else nm ++ [f]
def faceStep (st : Nat × List (List Int)) (f : List Int) : Nat × List (List Int) := (st.1 ||| 2 ^ (nameStep st.2 f).idxOf f, nameStep st.2 f)
def oneStep (st : List Nat × List (List Int)) (one : List Int) : List Nat × List (List Int) :=
  (st.1 ++ [((facesI one).foldl faceStep (0, st.2)).1], ((facesI one).foldl faceStep (0, st.2)).2)
def masksOf (z : List (List Int)) : List Nat := (z.foldl oneStep ([], [])).1
def rowsStep (rows : List (Nat × Nat)) (m : Nat) : List (Nat × Nat) := rows ++ rows.map fun p => (p.1 + 1, p.2 ||| m)
def rowsOf (ms : List Nat) : List (Nat × Nat) := ms.foldl rowsStep [(0, 0)]
def leastStep (n : Nat) (o : Option Nat) (p : Nat × Nat) : Option Nat := if p.1 = n then some (match o with | none => ones p.2 | some x => if ones p.2 < x then ones p.2 else x) else o
def leastF (rows : List (Nat × Nat)) (n : Nat) : Option Nat := rows.foldl (leastStep n) none
theorem nameStep_mem (nm : List (List Int)) (f : List Int) : f ∈ nameStep nm f := by
  unfold nameStep
  by_cases h : f ∈ nm
  · rw [if_pos h]
    exact h
  · rw [if_neg h]
    simp
theorem nameStep_len (nm : List (List Int)) (f : List Int) : (nameStep nm f).length ≤ nm.length + 1 := by
  unfold nameStep
  split
  · omega
  · rw [List.length_append]
    exact Nat.le_refl _
theorem facesI_len (l : List Int) : (facesI l).length = l.length := by
  unfold facesI
  rw [List.length_map, List.length_range]
theorem facesI_at {l : List Int} {n : Nat} (h : n < l.length) : (facesI l)[n]? = some (l.take n ++ l.drop (n + 1)) := by
  unfold facesI
  rw [List.getElem?_map, List.getElem?_range h]
  rfl
theorem rowsOf_len (ms : List Nat) : (rowsOf ms).length = 2 ^ ms.length := by
  have : ∀ (ms : List Nat) (rows : List (Nat × Nat)), (ms.foldl rowsStep rows).length = rows.length * 2 ^ ms.length := by
    intro ms
    induction ms with
    | nil => intro rows; rw [List.foldl_nil, List.length_nil, Nat.pow_zero, Nat.mul_one]
    | cons m ms ih =>
      intro rows
      rw [List.foldl_cons, ih]
      unfold rowsStep
      rw [List.length_append, List.length_map, List.length_cons, Nat.pow_succ, Nat.mul_comm (2 ^ ms.length) 2, ← Nat.mul_assoc]
      congr 1
      omega
  have h := this ms [(0, 0)]
  rw [List.length_singleton, Nat.one_mul] at h
  exact h
theorem masks_len (z : List (List Int)) : ∀ st : List Nat × List (List Int), (z.foldl oneStep st).1.length = st.1.length + z.length := by
  induction z with
  | nil => intro st; rfl
  | cons l z ih =>
    intro st
    rw [List.foldl_cons, ih]
    unfold oneStep
    rw [List.length_append, List.length_cons]
    simp only [List.length_cons, List.length_nil]
    omega
theorem faces_len (fs : List (List Int)) : ∀ st : Nat × List (List Int), (fs.foldl faceStep st).2.length ≤ st.2.length + fs.length := by
  induction fs with
  | nil => intro st; exact Nat.le_refl _
  | cons f fs ih =>
    intro st
    have h1 := ih (faceStep st f)
    have h2 := nameStep_len st.2 f
    rw [List.foldl_cons, List.length_cons]
    have e : (faceStep st f).2 = nameStep st.2 f := rfl
    rw [e] at h1
    omega
theorem names_len (z : List (List Int)) (h : ∀ l ∈ z, l.length ≤ 8) : ∀ st : List Nat × List (List Int), (z.foldl oneStep st).2.length ≤ st.2.length + 8 * z.length := by
  induction z with
  | nil => intro st; exact Nat.le_refl _
  | cons l z ih =>
    intro st
    have h1 := ih (fun y hy => h y (List.mem_cons_of_mem _ hy)) (oneStep st l)
    have h2 := faces_len (facesI l) (0, st.2)
    rw [facesI_len] at h2
    have h3 := h l List.mem_cons_self
    rw [List.foldl_cons, List.length_cons]
    have e : (oneStep st l).2 = ((facesI l).foldl faceStep (0, st.2)).2 := rfl
    rw [e] at h1
    have h2' : ((facesI l).foldl faceStep (0, st.2)).2.length ≤ st.2.length + l.length := h2
    omega
theorem bitOr_nat (a b : Nat) : Builtin.bitOr ((a : Nat) : Int) ((b : Nat) : Int) = ((a ||| b : Nat) : Int) := by
  rw [Bits.bitOr_pp (by omega) (by omega)]
  rfl
theorem mask_eq (a n : Nat) : Builtin.bitOr ((a : Nat) : Int) (1 * 2 ^ ((n : Nat) : Int).toNat) = ((a ||| 2 ^ n : Nat) : Int) := by
  rw [Int.one_mul, Int.toNat_natCast, ← bitOr_nat, Int.natCast_pow]
  rfl
def rowsV (rows : List (Nat × Nat)) : List (List V) := rows.map fun p => [V.int (p.1 : Nat), V.int (p.2 : Nat)]
theorem sqt_butK {K : PySem.W.Frag} {H H' : Hp} {d c : Addr} {xs : List V} {kvs : List (Key × V)} (h : SqT K H c xs) (b : But [d] H H') (hd : H d = some (.dK kvs)) : SqT K H' c xs := by
  rcases h with (h | ⟨o, h⟩) | h
  · exact Or.inl (Or.inl (b _ _ (by simpa using fun e : c = d => by rw [e, hd] at h; cases h) h))
  · exact Or.inl (Or.inr ⟨o, b _ _ (by simpa using fun e : c = d => by rw [e, hd] at h; cases h) h⟩)
  · exact Or.inr h
theorem tupAll_take {K : PySem.W.Frag} {H : Hp} : ∀ {vs : List V} {ys : List (List V)}, TupAll K H vs ys → ∀ n, TupAll K H (vs.take n) (ys.take n)
  | _, _, _, 0 => by rw [List.take_zero, List.take_zero]; exact .nil
  | _, _, .nil, n + 1 => .nil
  | _, _, .cons h t, n + 1 => .cons h (tupAll_take t n)
theorem leastF_snoc {rows : List (Nat × Nat)} {i : Nat} {p : Nat × Nat} (h : rows[i]? = some p) (n : Nat) : leastF (rows.take (i + 1)) n = leastStep n (leastF (rows.take i) n) p := by
  rw [take_snoc h]
  unfold leastF
  rw [List.foldl_append]
  rfl
structure LotsOk (k m : Nat) (z : List (List Int)) : Prop where
  k1 : 1 ≤ k
  k7 : k ≤ 7
  m11 : m ≤ 11
  perm : z.Perm (lotsI m k)
  srt : z.Pairwise fun a b => a.reverse ≤ b.reverse
  len : z.length ≤ 10
  each : ∀ l ∈ z, l ≠ [] ∧ l.length ≤ 8
  hd1 : ∀ l, z.head? = some l → mergeT [] (rowsF l) = rowsF l ∧ ((facesI l).map hI).Nodup
  fin : ∀ n, n ≤ z.length → leastF (rowsOf (masksOf z)) n = some (below (z.take n)) ∧ shad k n = below (z.take n)
def spLotsR (TT : List (Addr × Str)) : Sp := fun vs H Q _ => ∃ (k m : Nat) (z : List (List Int)), vs = [.int (k : Nat), .int (m : Nat)] ∧ LotsOk k m z ∧ Tabs TT H ∧ ∀ H', ExtN H H' → Tabs TT H' → Q (.bl true) H'
section
variable {P : Program} {w : World} {K : PySem.W.Frag} {mg : Str → Option Value} {base : Heap} {CB : Addr}
theorem ok_ca_lots_right {TT : List (Addr × Str)} (D : Dn K mg "_law_ca_lots_right" s_law_ca_lots_right ["k", "many"]) (T : Bt mg) (f_law_ca_sets : Cal P w K mg base 4 "_law_ca_sets" (spSets K TT)) (f_law_ca_below : Cal P w K mg base 1 "_law_ca_below" (spBelow P w K))
    (f_law_ca_ones : Cal P w K mg base 1 "_law_ca_ones" spOnes) (f_shadow : CalX P w K mg base 5 "shadow" (spShadow K CB)) (f_law_like : Cal P w K mg base 3 "_law_like" (spLike K 1)) (f_law_ca_right : Cal P w K mg base 6 "_law_ca_right" spRight) : Cal P w K mg base 7 "_law_ca_lots_right" (spLotsR TT) := by
  refine cal_of D sc_law_ca_lots_right (fun vs H Q E h => ?_) (fun f cdv A outer s H vs Q E hr h => ?_)
  · obtain ⟨k, m, z, rfl, _⟩ := h
    rfl
  · obtain ⟨k, m, z, rfl, O, hT, q⟩ := h
    have hu : (A.deeper (envOfC "_law_ca_lots_right" (defScope s_law_ca_lots_right) s.heap.objs.size f cdv)).units + 5 < cLine := by
      have := hr.un
      omega
    have hu1 : (A.deeper (envOfC "_law_ca_lots_right" (defScope s_law_ca_lots_right) s.heap.objs.size f cdv)).units + 1 < cLine := by omega
    refine ⟨_, (pss_cons (ps_set (i := 2) sc_law_ca_lots_right.nd rfl (Or.inl rfl) (LB.pe_c f_law_ca_sets hr (by decide) (by rfl) (pa_cons (pv 0) (pa_cons (pv 1) pa_nil))))
      (pss_cons (ps_par (i := 3) (j := 4) (by rfl) sc_law_ca_lots_right.nd rfl rfl (by decide) rfl rfl (pa_cons (pe_lst (pa_cons (pe_tup (pa_cons pe_int (pa_cons pe_int pa_nil))) pa_nil)) (pa_cons pe_dnewK pa_nil)) (by rfl))
      (pss_cons (ps_par (i := 5) (j := 6) (by rfl) sc_law_ca_lots_right.nd rfl rfl (by decide) rfl rfl (pa_cons (pe_lst pa_nil) (pa_cons pe_dnewT pa_nil)) (by rfl))
      (pss_cons (ps_for PassesOwn.never rfl (pi_list (pv 2)) (pg_name (i := 7) sc_law_ca_lots_right.nd rfl (Or.inl rfl)) (pss_cons (ps_set (i := 8) sc_law_ca_lots_right.nd rfl (Or.inr rfl) pe_int)
      (pss_cons (ps_for PassesOwn.never rfl (pi_range1 (by rfl) T.m_range (pa_cons (pe_callB call_len_seq (by rfl) T.m_len PySem.boot_len (pa_cons (pv 7) pa_nil)) pa_nil)) (pg_name (i := 9) sc_law_ca_lots_right.nd rfl (Or.inl rfl)) (pss_cons (ps_set (i := 10) sc_law_ca_lots_right.nd rfl (Or.inl rfl) (pe_op op_catA (pe_slice sl_tupA (pv 7) po_none (po_some (pv 9))) (pe_slice sl_tupA (pv 7) (po_some (pe_op op_add (pv 9) pe_int)) po_none)))
      (pss_cons (ps_expr (pe_dsetdT hu (pv 6) (pv 10) (pe_callB call_len_dT (by rfl) T.m_len PySem.boot_len (pa_cons (pv 6) pa_nil)) ⟨rfl, rfl, rfl, rfl⟩))
      (pss_one (ps_set (i := 8) sc_law_ca_lots_right.nd rfl (Or.inr rfl) (pe_op op_or (pv 8) (pe_op op_shl pe_int (pe_dget hu1 (pv 6) (pv 10) (fun _ _ => rfl)))))))))
      (pss_one (ps_expr (pe_bm PySem.F.plainAttrs_list PySem.F.slot_list_append PySem.F.type_list_append mt_append (pv 5) (pa_cons (pv 8) pa_nil)))))))
      (pss_cons (ps_for PassesOwn.never rfl (pi_list (pv 5)) (pg_name (i := 8) sc_law_ca_lots_right.nd rfl (Or.inr rfl)) (pss_one (ps_set (i := 3) sc_law_ca_lots_right.nd rfl (Or.inl rfl) (pe_op op_cat (pv 3) (pe_lc (own := [("n", 11), ("here", 12)]) rfl sc_law_ca_lots_right.nd (pi_list (pv 3)) (blkOk_by (N := ["k", "many", "sets_now", "rows", "least", "masks", "names", "one", "mask", "at", "face", "n", "here", "found"]) (sc := defScope s_law_ca_lots_right) (by decide +kernel)) (fun _ _ _ _ _ => (LB.pg_tupK (K := K) 2 rfl rfl (pgs_cons (pg_name (i := 11) sc_law_ca_lots_right.nd rfl (Or.inl rfl)) (pgs_cons (pg_name (i := 12) sc_law_ca_lots_right.nd rfl (Or.inl rfl)) pgs_nil)))) (fun _ _ _ _ _ => pts_nil) (fun _ _ _ _ _ => (pe_tup (pa_cons (pe_op op_add (pv 11) pe_int) (pa_cons (pe_op op_or (pv 12) (pv 8)) pa_nil)))))))))
      (pss_cons (ps_for PassesOwn.never rfl (pi_list (pv 3)) (pg_tup rfl (pgs_cons (pg_name (i := 11) sc_law_ca_lots_right.nd rfl (Or.inl rfl)) (pgs_cons (pg_name (i := 12) sc_law_ca_lots_right.nd rfl (Or.inl rfl)) pgs_nil))) (pss_cons (ps_set (i := 13) sc_law_ca_lots_right.nd rfl (Or.inl rfl) (LB.pe_c f_law_ca_ones hr (by decide) (by rfl) (pa_cons (pv 12) pa_nil)))
      (pss_one (ps_dput hu1 (pv 4) (pv 11) (pe_callB (call_min2 rfl) (by rfl) T.m_min (by decide +kernel) (pa_cons (pe_callTy call_int1 (by rfl) T.m_int (by decide +kernel) (pa_cons (pe_dget2 hu1 (pv 4) (pv 11) (pv 13) ⟨rfl, rfl, rfl, rfl⟩) pa_nil)) (pa_cons (pe_callTy call_int1 (by rfl) T.m_int (by decide +kernel) (pa_cons (pv 13) pa_nil)) pa_nil))) rfl))))
      (pss_cons (ps_for PassesOwn.never rfl (pi_range1 (by rfl) T.m_range (pa_cons (pe_op op_add (pe_callB call_len_seq (by rfl) T.m_len PySem.boot_len (pa_cons (pv 2) pa_nil)) pe_int) pa_nil)) (pg_name (i := 11) sc_law_ca_lots_right.nd rfl (Or.inl rfl)) (pss_cons (ps_if (PW.pt (pw_or (pt_cmpR op_ne (pe_dget hu1 (pv 4) (pv 11) (fun _ _ => rfl)) (LB.pe_c f_law_ca_below hr (by decide) (by rfl) (pa_cons (pe_slice sl_list (pv 2) po_none (po_some (pv 11))) pa_nil)) (nomark _)) (pw_or1 (pt_not (pt_val (LB.pe_c f_law_like hr (by decide) (by rfl) (pa_cons (LB.pe_cx f_shadow hr (by decide) (by rfl) (pa_cons (pv 0) (pa_cons (pv 11) pa_nil))) (pa_cons (pe_dget hu1 (pv 4) (pv 11) (fun _ _ => rfl)) pa_nil)))))))) (pss_one (ps_ret pe_bl)) pss_nil)
      (pss_one (ps_if (pt_not (pt_val (LB.pe_c f_law_ca_right hr (by decide) (by rfl) (pa_cons (pv 0) (pa_cons (pv 11) pa_nil))))) (pss_one (ps_ret pe_bl)) pss_nil))))
      (pss_one (ps_ret pe_bl))))))))), ?_⟩
    refine ⟨_, rfl, _, rfl, k, m, z, rfl, O.k1, O.m11, O.perm, O.srt, hT, fun ps H1 sets e1 T1 hps hsets => ?_⟩
    refine ⟨(by show 2 ≤ sizeLine; decide), fun t0 ht0 => ⟨(by show 1 ≤ sizeLine; decide), fun rp hrp => fun ld hld => ?_⟩⟩
    refine ⟨_, _, rfl, ?_⟩
    refine ⟨Nat.zero_le _, fun ml hml => fun nd hnd => ⟨_, _, rfl, ?_⟩⟩
    have x1 := Ex.new (o := .tup [V.int 0, V.int 0]) ht0
    have x2 := Ex.new (o := .lst [V.ref t0]) hrp
    have x3 := Ex.new (o := .dK []) hld
    have x4 := Ex.new (o := .lst []) hml
    have x5 := Ex.new (o := .dT []) hnd
    have f5 : ∀ p, upd (upd (upd (upd H1 t0 (.tup [V.int 0, V.int 0])) rp (.lst [V.ref t0])) ld (.dK [])) ml (.lst []) p = none → H1 p = none := fun p h => fresh_back (((x1.trans x2).trans x3).trans x4) h
    have h5t := x5 _ _ (x4 _ _ (x3 _ _ (x2 t0 _ upd_same)))
    have h5r := x5 _ _ (x4 _ _ (x3 rp _ upd_same))
    have h5l := x5 _ _ (x4 ld _ upd_same)
    have h5m := x5 ml _ upd_same
    have h5n : upd (upd (upd (upd (upd H1 t0 (.tup [V.int 0, V.int 0])) rp (.lst [V.ref t0])) ld (.dK [])) ml (.lst [])) nd (.dT []) nd = some (.dT []) := upd_same
    have nml : H1 ml = none := fresh_back ((x1.trans x2).trans x3) hml
    have nnd : H1 nd = none := f5 _ hnd
    have nld : H1 ld = none := fresh_back (x1.trans x2) hld
    have nrp : rp ≠ ml := ne_of_none (x3 rp _ upd_same) hml
    have eH5 : Ex H1 (upd (upd (upd (upd (upd H1 t0 (.tup [V.int 0, V.int 0])) rp (.lst [V.ref t0])) ld (.dK [])) ml (.lst [])) nd (.dT [])) := (((x1.trans x2).trans x3).trans x4).trans x5
    generalize upd (upd (upd (upd (upd H1 t0 (.tup [V.int 0, V.int 0])) rp (.lst [V.ref t0])) ld (.dK [])) ml (.lst [])) nd (.dT []) = H5 at h5t h5r h5l h5m h5n eH5 ⊢
    clear x1 x2 x3 x4 x5 f5 ht0 hrp hld hml hnd
    have hne1 : ∀ z0 ∈ [ml, nd], H1 z0 = none := by simp [nml, nnd]
    refine ⟨_, rfl, ps, rfl, ⟨sets, Or.inl (Or.inl (eH5 _ _ hps))⟩, for_list (K := K) (a := ps) (xs := sets) (fun i σ H' => ∃ v7 v8 v9 v10, σ = [some (V.int (k : Nat)), some (V.int (m : Nat)), some (V.ref ps), some (V.ref rp), some (V.ref ld), some (V.ref ml), some (V.ref nd), v7, v8, v9, v10, none, none, none] ∧ But [ml, nd] H5 H' ∧ H' ml = some (.lst (((z.take i).foldl oneStep ([], [])).1.map fun j => V.int (j : Nat))) ∧ H' nd = some (.dT (namesV ((z.take i).foldl oneStep ([], [])).2)))
      ⟨none, none, none, none, rfl, But.refl, h5m, h5n⟩ (fun i σ H' _ ⟨_, _, _, _, _, b, _⟩ => Or.inl (Or.inl (((But.of eH5).trans b).ex hne1 _ _ hps))) ?_ ?_⟩
    · rintro i x σ H' hx ⟨v7, v8, v9, v10, rfl, b, hm, hn⟩
      have eH' : Ex H1 H' := ((But.of eH5).trans b).ex hne1
      obtain ⟨t, ys, rfl, hys, hst0⟩ := hsets.get hx
      obtain ⟨l, hl, rfl⟩ : ∃ l, z[i]? = some l ∧ vI l = ys := by
        rw [List.getElem?_map] at hys
        exact Option.map_eq_some_iff.mp hys
      obtain ⟨hne, hl8⟩ := O.each l (List.mem_of_getElem? hl)
      have hst : SqT K H' t (vI l) := Evl.ex_t eH' hst0
      have hvl : (vI l).length = l.length := List.length_map ..
      have hi10 : i < z.length := (List.getElem?_eq_some_iff.mp hl).1
      have hnl := names_len (z.take i) (fun y hy => (O.each y (List.mem_of_mem_take hy)).2) ([], [])
      have hmlen := masks_len (z.take i) ([], [])
      have hz10 := O.len
      rw [List.length_take] at hnl hmlen
      generalize hG : (z.take i).foldl oneStep ([], []) = G at hm hn hnl hmlen
      obtain ⟨ms, nm⟩ := G
      simp only [List.length_nil, Nat.zero_add] at hnl hmlen
      refine ⟨_, rfl, t, _, rfl, Or.inr hst, _, rfl, by omega, by omega, for_range (lo := 0) (n := ((vI l).length : Int).toNat) (fun j σ H'' => ∃ v9 v10, σ = [some (V.int (k : Nat)), some (V.int (m : Nat)), some (V.ref ps), some (V.ref rp), some (V.ref ld), some (V.ref ml), some (V.ref nd), some (V.ref t), some (V.int ((((facesI l).take j).foldl faceStep (0, nm)).1 : Nat)), v9, v10, none, none, none] ∧ But [nd] H' H'' ∧ H'' nd = some (.dT (namesV (((facesI l).take j).foldl faceStep (0, nm)).2)))
        ⟨v9, v10, rfl, But.refl, hn⟩ ?_ ?_⟩
      · rintro j σ H'' hj ⟨v9, v10, rfl, b2, hn2⟩
        have hj' : j < l.length := by omega
        have hfl := faces_len ((facesI l).take j) (0, nm)
        rw [List.length_take, facesI_len] at hfl
        have hfs := take_snoc (facesI_at hj')
        rw [hfs, List.foldl_append]
        generalize ((facesI l).take j).foldl faceStep (0, nm) = g at hn2 hfl ⊢
        obtain ⟨mk, nm2⟩ := g
        have hst2 : SqT K H'' t (vI l) := Evl.ex_t ((((But.of eH5).trans b).trans (b2.more (by simp))).ex hne1) hst0
        refine ⟨_, rfl, _, rfl, _, rfl, ?_⟩
        rw [Int.zero_add]
        refine sl_new hst2 (by rw [hvl]; exact whole_not1 hj') fun p1 hp1 => ?_
        refine ⟨_, rfl, _, rfl, _, _, rfl, rfl, _, rfl, ?_⟩
        have y1 : Ex H'' (upd H'' p1 (.tup (cutV (vI l) none (some (j : Int))))) := Ex.new hp1
        rw [show ((j : Nat) : Int) + 1 = ((j + 1 : Nat) : Int) by omega]
        dsimp only [tNoPart]
        refine sl_new (Evl.ex_t y1 hst2) (by rw [hvl]; exact whole_not2 (i := j + 1) (by omega) (by omega)) fun p2 hp2 => ?_
        have y2 := Ex.new (o := .tup (cutV (vI l) (some ((j + 1 : Nat) : Int)) none)) hp2
        have np : p1 ≠ p2 := fun z0 => by rw [← z0, upd_same] at hp2; cases hp2
        refine cat_new (xs := cutV (vI l) none (some (j : Int))) (ys := cutV (vI l) (some ((j + 1 : Nat) : Int)) none) (by rw [upd_ne np, upd_same]) upd_same ?_ fun c H3 y3 f5 hc => ?_
        · rw [cutV_to, cutV_from, List.length_take, List.length_drop, hvl]
          omega
        have hc' : H3 c = some (.tup ((keyI (l.take j ++ l.drop (j + 1))).map kV)) := by
          rw [hc, keyI_V, cutV_to, cutV_from]
          show some (HO.tup (List.take j (l.map V.int) ++ List.drop (j + 1) (l.map V.int))) = some (HO.tup ((l.take j ++ l.drop (j + 1)).map V.int))
          rw [List.map_append, List.map_take, List.map_drop]
        have y4 : Ex H'' H3 := (y1.trans y2).trans y3
        have hn3 := y4 _ _ hn2
        have ncn : c ≠ nd := fun e => by rw [e, hn3] at hc'; cases hc'
        generalize l.take j ++ l.drop (j + 1) = fc at hc' ⊢
        simp only [List.length_nil] at hfl
        have hmem := nameStep_mem nm2 fc
        have hsl := nameStep_len nm2 fc
        refine ⟨_, rfl, nd, rfl, Or.inr ⟨_, Or.inl hn3⟩, _, rfl, _, rfl, nd, _, rfl, hn3, namesV nm2, keyI fc, c, hn3, rfl, hc', Evl.sz_lt (by rw [namesV_len]; omega), fun v hv => ?_, fun hv => ?_⟩
        · have hin : fc ∈ nm2 := by
            by_cases h : fc ∈ nm2
            · exact h
            · rw [valV_names, if_neg h] at hv
              cases hv
          have en : nameStep nm2 fc = nm2 := if_pos hin
          have hg : DGet H3 nd (.ref c) (some (V.int ((nm2.idxOf fc : Nat) : Int))) := by
            have := DGet.t hn3 hc'
            rw [valV_names, if_pos hin] at this
            exact this
          refine ⟨_, rfl, _, rfl, _, rfl, nd, _, rfl, hg, _, _, rfl, rfl, ⟨by omega, by have := List.idxOf_lt_length_of_mem hin; omega, by decide⟩, _, _, rfl, rfl, some (.int (j : Nat)), some (.ref c), ?_, (b2.trans (But.of y4)), ?_⟩
          · show [some (V.int (k : Nat)), some (V.int (m : Nat)), some (V.ref ps), some (V.ref rp), some (V.ref ld), some (V.ref ml), some (V.ref nd), some (V.ref t), some (V.int (Builtin.bitOr ((mk : Nat) : Int) (1 * 2 ^ ((nm2.idxOf fc : Nat) : Int).toNat))), some (V.int (j : Nat)), some (V.ref c), none, none, none] = _
            rw [mask_eq]
            show _ = [some (V.int (k : Nat)), some (V.int (m : Nat)), some (V.ref ps), some (V.ref rp), some (V.ref ld), some (V.ref ml), some (V.ref nd), some (V.ref t), some (V.int ((mk ||| 2 ^ (nameStep nm2 fc).idxOf fc : Nat) : Int)), some (V.int (j : Nat)), some (V.ref c), none, none, none]
            rw [en]
          · show H3 nd = some (.dT (namesV (nameStep nm2 fc)))
            rw [en]
            exact hn3
        · have hin : ¬ fc ∈ nm2 := fun h => by
            rw [valV_names, if_pos h] at hv
            cases hv
          have en : nameStep nm2 fc = nm2 ++ [fc] := if_neg hin
          rw [namesV_len, namesV_put hin, ← en]
          have hn4 : upd H3 nd (.dT (namesV (nameStep nm2 fc))) nd = some (.dT (namesV (nameStep nm2 fc))) := upd_same
          have hc4 : upd H3 nd (.dT (namesV (nameStep nm2 fc))) c = some (.tup ((keyI fc).map kV)) := by
            rw [upd_ne ncn]
            exact hc'
          have hg : DGet (upd H3 nd (.dT (namesV (nameStep nm2 fc)))) nd (.ref c) (some (V.int (((nameStep nm2 fc).idxOf fc : Nat) : Int))) := by
            have := DGet.t hn4 hc4
            rw [valV_names, if_pos hmem] at this
            exact this
          refine ⟨_, rfl, _, rfl, _, rfl, nd, _, rfl, hg, _, _, rfl, rfl, ⟨by omega, by have := List.idxOf_lt_length_of_mem hmem; omega, by decide⟩, _, _, rfl, rfl, some (.int (j : Nat)), some (.ref c), ?_, (b2.trans ((But.of y4).trans (But.put (by simp)))), ?_⟩
          · show [some (V.int (k : Nat)), some (V.int (m : Nat)), some (V.ref ps), some (V.ref rp), some (V.ref ld), some (V.ref ml), some (V.ref nd), some (V.ref t), some (V.int (Builtin.bitOr ((mk : Nat) : Int) (1 * 2 ^ (((nameStep nm2 fc).idxOf fc : Nat) : Int).toNat))), some (V.int (j : Nat)), some (V.ref c), none, none, none] = _
            rw [mask_eq]
            rfl
          · exact hn4
      · rintro σ H'' ⟨v9, v10, rfl, b2, hn2⟩
        have nmn : ml ≠ nd := fun e => by rw [e, h5n] at h5m; cases h5m
        have hm2 := b2 ml _ (by simpa using nmn) hm
        have hfull : (facesI l).take ((vI l).length : Int).toNat = facesI l := List.take_of_length_le (by rw [facesI_len, hvl]; omega)
        rw [hfull] at hn2 ⊢
        have hstep : (z.take (i + 1)).foldl oneStep ([], []) = (ms ++ [((facesI l).foldl faceStep (0, nm)).1], ((facesI l).foldl faceStep (0, nm)).2) := by
          rw [take_snoc hl, List.foldl_append, hG]
          rfl
        refine ⟨_, rfl, Or.inl ⟨rfl, _, Or.inl (Or.inl hm2)⟩, _, rfl, ml, _, _, rfl, rfl, hm2, Evl.sz_lt (by rw [List.length_map]; show ms.length < 100000; omega), some (.ref t), some (.int ((((facesI l).foldl faceStep (0, nm)).1 : Nat) : Int)), v9, v10, rfl, ?_, ?_, ?_⟩
        · exact b.trans ((b2.more (by simp)).trans (But.put (by simp)))
        · rw [hstep, upd_same, List.map_append]
          rfl
        · rw [hstep, upd_ne (Ne.symm nmn)]
          exact hn2
    · rintro σ H6 ⟨v7, v8, v9, v10, rfl, b, hm, hn⟩
      have hsl : sets.length = z.length := by rw [hsets.len, List.length_map]
      rw [hsl, List.take_length] at hm
      have e16 : Ex H1 H6 := ((But.of eH5).trans b).ex hne1
      have nrl : rp ∉ [ml, nd] := by
        have : rp ≠ nd := fun e => by rw [e, h5n] at h5r; cases h5r
        simp [nrp, this]
      have ntl : t0 ∉ [ml, nd] := by
        have h1 : t0 ≠ nd := fun e => by rw [e, h5n] at h5t; cases h5t
        have h2 : t0 ≠ ml := fun e => by rw [e, h5m] at h5t; cases h5t
        simp [h1, h2]
      have nll : ld ∉ [ml, nd] := by
        have h1 : ld ≠ nd := fun e => by rw [e, h5n] at h5l; cases h5l
        have h2 : ld ≠ ml := fun e => by rw [e, h5m] at h5l; cases h5l
        simp [h1, h2]
      have h6r := b rp _ nrl h5r
      have h6t := b t0 _ ntl h5t
      have h6l := b ld _ nll h5l
      have hmk : ((z.foldl oneStep ([], [])).1) = masksOf z := rfl
      rw [hmk] at hm
      have hml10 : (masksOf z).length ≤ 10 := by
        have := masks_len z ([], [])
        have h2 := O.len
        unfold masksOf
        rw [this]
        show 0 + z.length ≤ 10
        omega
      clear hn b h5m h5n h5l h5t h5r eH5 hne1 nml nnd nrp
      refine ⟨_, rfl, ml, rfl, ⟨_, Or.inl (Or.inl hm)⟩, for_list (K := K) (a := ml) (xs := (masksOf z).map fun j => V.int ((j : Nat) : Int)) (fun i σ H' => ∃ rq items v8, σ = [some (V.int (k : Nat)), some (V.int (m : Nat)), some (V.ref ps), some (V.ref rq), some (V.ref ld), some (V.ref ml), some (V.ref nd), v7, v8, v9, v10, none, none, none] ∧ Ex H6 H' ∧ H' rq = some (.lst items) ∧ TupAll K H' items (rowsV (rowsOf ((masksOf z).take i))))
        ⟨rp, _, v8, rfl, Ex.refl _, h6r, .cons ⟨t0, rfl, Or.inl (Or.inl h6t)⟩ .nil⟩ (fun i σ H' _ ⟨_, _, _, _, e, _⟩ => Or.inl (Or.inl (e _ _ hm))) ?_ ?_⟩
      · rintro i x σ H' hx ⟨rq, items, v8, rfl, e6, hrq, hit⟩
        obtain ⟨mk, hmk2, rfl⟩ : ∃ mk, (masksOf z)[i]? = some mk ∧ V.int ((mk : Nat) : Int) = x := by
          rw [List.getElem?_map] at hx
          exact Option.map_eq_some_iff.mp hx
        have hi : i < (masksOf z).length := (List.getElem?_eq_some_iff.mp hmk2).1
        have hrl := rowsOf_len ((masksOf z).take i)
        rw [List.length_take] at hrl
        have hsmall : (rowsOf ((masksOf z).take i)).length ≤ 1024 := by
          rw [hrl]
          have : 2 ^ min i (masksOf z).length ≤ 2 ^ 10 := Nat.pow_le_pow_right (by decide) (by omega)
          exact this
        have hnx : rowsOf ((masksOf z).take (i + 1)) = rowsStep (rowsOf ((masksOf z).take i)) mk := by
          rw [take_snoc hmk2]
          unfold rowsOf
          rw [List.foldl_append]
          rfl
        rw [hnx]
        generalize rowsOf ((masksOf z).take i) = rows at hit hsmall ⊢
        have hil : items.length = rows.length := by rw [hit.len, rowsV, List.length_map]
        refine ⟨_, rfl, _, rfl, rq, rfl, ⟨items, Or.inl (Or.inl hrq)⟩, fun Dl hDl => lc_list (K := K) (a := rq) (xs := items) (fun n H2 => Ex H' H2 ∧ ∃ acc, H2 Dl = some (.lst acc) ∧ TupAll K (cut [Dl] H2) acc (rowsV ((rows.take n).map fun p => (p.1 + 1, p.2 ||| mk)))) ⟨Ex.new hDl, [], upd_same, .nil⟩ (fun n H2 _ ⟨e, _⟩ => Or.inl (Or.inl (e _ _ hrq))) ?_ ?_⟩
        · rintro n y H2 hy ⟨e2, acc, h2, hacc⟩
          obtain ⟨t, ys, rfl, hys, hst⟩ := hit.get hy
          obtain ⟨pr, hpr, rfl⟩ : ∃ pr, rows[n]? = some pr ∧ [V.int (pr.1 : Nat), V.int (pr.2 : Nat)] = ys := by
            rw [rowsV, List.getElem?_map] at hys
            exact Option.map_eq_some_iff.mp hys
          refine ⟨t, _, rfl, Evl.ex_t e2 hst, rfl, _, _, rfl, _, _, rfl, rfl, rfl, _, rfl, _, _, rfl, rfl, _, rfl, _, rfl, _, _, rfl, rfl, (by show 2 ≤ sizeLine; decide), fun u hu2 => ?_⟩
          have nuD : u ≠ Dl := fun z0 => by rw [z0, h2] at hu2; cases hu2
          have e3 := Ex.new (o := .tup [V.int (((pr.1 : Nat) : Int) + 1), V.int (Builtin.bitOr ((pr.2 : Nat) : Int) ((mk : Nat) : Int))]) hu2
          refine ⟨acc, e3 _ _ h2, Evl.sz_lt (by rw [hacc.len, rowsV, List.length_map, List.length_map, List.length_take]; omega), (e2.trans e3).mut (p := Dl) hDl, acc ++ [.ref u], upd_same, ?_⟩
          rw [take_snoc hpr, List.map_append, rowsV, List.map_append]
          refine (hacc.up ?_).app (.cons ⟨u, rfl, Or.inl (Or.inl ?_)⟩ .nil)
          · exact But.cut ((But.of e3).trans (But.put (by simp)))
          · rw [cut_out (by simpa using nuD), upd_ne nuD, upd_same]
            show some (HO.tup [V.int (((pr.1 : Nat) : Int) + 1), V.int (Builtin.bitOr ((pr.2 : Nat) : Int) ((mk : Nat) : Int))]) = _
            rw [bitOr_nat]
            rfl
        · rintro H2 ⟨e2, acc, h2, hacc⟩
          rw [hil, List.take_length] at hacc
          have hD' : rq ≠ Dl := ne_of_none hrq hDl
          refine ⟨rq, Dl, items, acc, rfl, rfl, e2 _ _ hrq, h2, Evl.sz_of (by rw [hacc.len, rowsV, List.length_map, List.length_map]; omega), fun r hr2 => ?_⟩
          have er : Ex H2 (upd H2 r (.lst (items ++ acc))) := Ex.new hr2
          refine ⟨r, _, some (.int ((mk : Nat) : Int)), rfl, (e6.trans e2).trans er, upd_same, ?_⟩
          rw [rowsStep, rowsV, List.map_append]
          exact (hit.up (e2.trans er)).app ((hacc.up ex_cut).up er)
      · rintro σ H7 ⟨rq, items, v8', rfl, e67, hrq, hit⟩
        have h7l := e67 _ _ h6l
        have e17 := e16.trans e67
        rw [List.length_map, List.take_length] at hit
        have hil : items.length = (rowsOf (masksOf z)).length := by rw [hit.len, rowsV, List.length_map]
        have hr10 : (rowsOf (masksOf z)).length ≤ 1024 := by
          rw [rowsOf_len]
          have : 2 ^ (masksOf z).length ≤ 2 ^ 10 := Nat.pow_le_pow_right (by decide) hml10
          exact this
        have hfin := O.fin
        generalize rowsOf (masksOf z) = rows at hit hil hr10 hfin
        have n7 : ∀ z0 ∈ [ld], H1 z0 = none := by simp [nld]
        refine ⟨_, rfl, rq, rfl, ⟨_, Or.inl (Or.inl hrq)⟩, for_list (K := K) (a := rq) (xs := items) (fun i σ H' => ∃ v11 v12 v13 kvs, σ = [some (V.int (k : Nat)), some (V.int (m : Nat)), some (V.ref ps), some (V.ref rq), some (V.ref ld), some (V.ref ml), some (V.ref nd), v7, v8', v9, v10, v11, v12, v13] ∧ But [ld] H7 H' ∧ H' ld = some (.dK kvs) ∧ kvs.length ≤ i ∧
            ∀ n : Nat, valV kvs (Sum.inl (n : Int)) = (leastF (rows.take i) n).map fun x => V.int (x : Nat))
          ⟨none, none, none, [], rfl, But.refl, h7l, Nat.zero_le _, fun n => rfl⟩ (fun i σ H' _ ⟨_, _, _, _, _, b, _⟩ => Or.inl (Or.inl (b _ _ (by simpa using fun e : rq = ld => by rw [e, h7l] at hrq; cases hrq) hrq))) ?_ ?_⟩
        · rintro i x σ H' hx ⟨v11, v12, v13, kvs, rfl, b, hld, hkl, hval⟩
          obtain ⟨t, ys, rfl, hys, hst⟩ := hit.get hx
          obtain ⟨pr, hpr, rfl⟩ : ∃ pr, rows[i]? = some pr ∧ [V.int (pr.1 : Nat), V.int (pr.2 : Nat)] = ys := by
            rw [rowsV, List.getElem?_map] at hys
            exact Option.map_eq_some_iff.mp hys
          have hi : i < rows.length := (List.getElem?_eq_some_iff.mp hpr).1
          have hst' : SqT K H' t [V.int (pr.1 : Nat), V.int (pr.2 : Nat)] := sqt_butK hst b h7l
          have hg := hval pr.1
          refine ⟨t, _, rfl, hst', rfl, _, _, rfl, _, _, rfl, rfl, _, rfl, pr.2, rfl, ?_⟩
          refine ⟨_, rfl, ld, rfl, Or.inl ⟨_, Or.inl hld⟩, _, rfl, _, rfl, _, DGet.k (k := Sum.inl ((pr.1 : Nat) : Int)) hld, ?_⟩
          have hfin2 : ∀ x : Nat, leastStep pr.1 (leastF (rows.take i) pr.1) pr = some x → ∃ v11 v12 v13 kvs', (([some (V.int (k : Nat)), some (V.int (m : Nat)), some (V.ref ps), some (V.ref rq), some (V.ref ld), some (V.ref ml), some (V.ref nd), v7, v8', v9, v10, some (V.int (pr.1 : Nat)), some (V.int (pr.2 : Nat)), some (V.int (ones pr.2 : Nat))] : L2.St) = [some (V.int (k : Nat)), some (V.int (m : Nat)), some (V.ref ps), some (V.ref rq), some (V.ref ld), some (V.ref ml), some (V.ref nd), v7, v8', v9, v10, v11, v12, v13]) ∧ But [ld] H7 (upd H' ld (.dK (putK kvs (Sum.inl ((pr.1 : Nat) : Int)) (V.int (x : Nat))))) ∧ (upd H' ld (.dK (putK kvs (Sum.inl ((pr.1 : Nat) : Int)) (V.int (x : Nat))))) ld = some (.dK kvs') ∧ kvs'.length ≤ i + 1 ∧
              ∀ n : Nat, valV kvs' (Sum.inl (n : Int)) = (leastF (rows.take (i + 1)) n).map fun x => V.int (x : Nat) := by
            intro x hx
            refine ⟨_, _, _, _, rfl, b.trans (But.put (by simp)), upd_same, ?_, fun n => ?_⟩
            · have := length_putK kvs (Sum.inl ((pr.1 : Nat) : Int)) (V.int (x : Nat))
              omega
            · rw [valV_put, leastF_snoc hpr]
              by_cases e : n = pr.1
              · subst e
                rw [if_pos rfl, hx]
                rfl
              · rw [if_neg (fun z0 => e (by have := Sum.inl.inj z0; omega)), hval n]
                unfold leastStep
                rw [if_neg (fun z0 => e z0.symm)]
          have hput : ∀ x : Nat, DPut H' ld (V.int ((pr.1 : Nat) : Int)) (V.int (x : Nat)) (upd H' ld (.dK (putK kvs (Sum.inl ((pr.1 : Nat) : Int)) (V.int (x : Nat))))) := fun x => DPut.k (k := Sum.inl ((pr.1 : Nat) : Int)) hld (Evl.sz_lt (by omega))
          rw [hg]
          cases hlf : leastF (rows.take i) pr.1 with
          | none =>
            refine Or.inl ⟨_, rfl, _, rfl, Or.inl ⟨_, rfl, _, _, rfl, ?_⟩⟩
            rw [if_neg (by omega)]
            refine ⟨_, rfl, _, rfl, ld, _, rfl, hput (ones pr.2), ?_⟩
            refine hfin2 (ones pr.2) ?_
            rw [hlf]
            unfold leastStep
            rw [if_pos rfl]
          | some x =>
            refine Or.inl ⟨_, rfl, _, rfl, Or.inl ⟨_, rfl, _, _, rfl, ?_⟩⟩
            by_cases hc : ones pr.2 < x
            · rw [if_pos (by omega)]
              refine ⟨_, rfl, _, rfl, ld, _, rfl, hput (ones pr.2), ?_⟩
              refine hfin2 (ones pr.2) ?_
              rw [hlf]
              unfold leastStep
              rw [if_pos rfl]
              show some (if ones pr.2 < x then ones pr.2 else x) = _
              rw [if_pos hc]
            · rw [if_neg (by omega)]
              refine ⟨_, rfl, _, rfl, ld, _, rfl, hput x, ?_⟩
              refine hfin2 x ?_
              rw [hlf]
              unfold leastStep
              rw [if_pos rfl]
              show some (if ones pr.2 < x then ones pr.2 else x) = _
              rw [if_neg hc]
        · rintro σ H8 ⟨v11, v12, v13, kvs, rfl, b, hld, hkl, hval⟩
          rw [hil, List.take_length] at hval
          have e18 : Ex H1 H8 := ((But.of e17).trans b).ex n7
          have hz10 := O.len
          refine ⟨_, rfl, ps, _, rfl, Or.inl (Or.inl (Or.inl (e18 _ _ hps))), _, _, rfl, rfl, _, rfl, by omega, by omega, for_range (lo := 0) (n := ((sets.length : Int) + 1).toNat) (fun i σ H' => ∃ v11, σ = [some (V.int (k : Nat)), some (V.int (m : Nat)), some (V.ref ps), some (V.ref rq), some (V.ref ld), some (V.ref ml), some (V.ref nd), v7, v8', v9, v10, v11, v12, v13] ∧ Ex H8 H') ⟨_, rfl, Ex.refl _⟩ ?_ ?_⟩
          · rintro n σ H' hn ⟨v11, rfl, e8⟩
            have hn' : n ≤ z.length := by omega
            obtain ⟨g1, g2⟩ := hfin n hn'
            have hgv : ∀ H', Ex H8 H' → DGet H' ld (V.int ((n : Nat) : Int)) (some (V.int ((below (z.take n) : Nat) : Int))) := fun H' e8 => by
              have h0 := DGet.k (k := Sum.inl ((n : Nat) : Int)) (e8 _ _ hld)
              rw [hval n, g1] at h0
              exact h0
            rw [Int.zero_add]
            refine ⟨_, rfl, _, rfl, ld, _, rfl, hgv H' e8, _, rfl, _, rfl, _, rfl, ps, sets, rfl, Or.inl (Or.inl (e8 _ _ (e18 _ _ hps))), fun pc hpc => ?_⟩
            have e9 := Ex.new (o := .lst (cutV sets none (some ((n : Nat) : Int)))) hpc
            refine ⟨pc, _, z.take n, rfl, Or.inl (Or.inl upd_same), ?_, by rw [List.length_take]; omega, fun l hl => O.each l (List.mem_of_mem_take hl), fun l hl => ?_, fun H9 e10 => ?_⟩
            · have h0 := tupAll_take (hsets.up ((e18.trans e8).trans e9)) n
              rw [List.map_take]
              exact cutV_to (xs := sets) (n := n) ▸ h0
            · have hl2 : z.head? = some l := by
                cases n with
                | zero => cases hl
                | succ n =>
                  cases z with
                  | nil => cases hl
                  | cons a z => exact hl
              obtain ⟨h1, h2⟩ := O.hd1 l hl2
              exact hash_rows P w h1 h2
            have e89 : Ex H8 H9 := (e8.trans e9).trans e10
            refine ⟨rfl, _, rfl, ?_⟩
            rw [show (!decide (V.int ((below (z.take n) : Nat) : Int) = V.int ((below (z.take n) : Nat) : Int))) = false by rw [decide_eq_true rfl]; rfl]
            refine iteF ⟨_, rfl, _, rfl, ?_⟩
            dsimp only [tNil, List.cons_append, List.nil_append]
            refine shadow_use O.k1 O.k7 (by omega) fun H10 e11 => ?_
            rw [g2]
            refine ⟨_, rfl, _, rfl, ld, _, rfl, hgv _ (e89.trans e11), _, _, _, rfl, .int _, .int _, rfl, fun H11 e12 => ⟨_, rfl, iteF ?_⟩⟩
            refine ⟨_, rfl, _, rfl, k, n, rfl, O.k1, O.k7, by omega, fun H12 e13 => ⟨_, rfl, iteF ?_⟩⟩
            exact ⟨_, rfl, ((e89.trans e11).trans e12).trans e13⟩
          · rintro σ H' ⟨v11, rfl, e8⟩
            exact q H' (e1.trans (ExtN.of (e18.trans e8))) (T1.ext (e18.trans e8))
end
end K25
end
section
set_option Elab.async false
set_option linter.all false
set_option maxRecDepth 100000
set_option maxHeartbeats 4000000
namespace K25
open PySem PySem.Spec PyProof.Rows L2 LB LamX
/-- the row behind _law_ca_said -/
def saidE (K : PySem.W.Frag) (CR CB : Addr) (Q : VK) : XK := fun cls d H => PySem.W.exmOne K cls (.ref CR) = some true ∧ ∃ (C dd : Addr) (fs : List (Str × V)) (v : V) (bm : Bool), cls = .ref C ∧ ExcC K C ∧ XfC K C ∧ PySem.W.findIn K (.ref C) "what" = some none ∧ PySem.W.kitOne K (.ref C) (.ref CB) = some bm ∧
  d = some dd ∧ H dd = some (.xd fs) ∧ fs.lookup ("what" : Str) = some v ∧ ∀ p, H p = none → Q (.ref p) (upd H p (.tup [.str (if bm then "BadMany" else ""), v]))
def TTsaid (K : PySem.W.Frag) (CR CB : Addr) : (XK → Hp → VK → Prop) → Hp → VK → Prop := fun tl H Q => tl (saidE K CR CB Q) H fun v H' => 2 ≤ sizeLine ∧ ∀ p, H' p = none → Q (.ref p) (upd H' p (.tup [.str "told", v]))
theorem said_gives {X : Cx} {g CR CB : Addr} {cdg : Value} {q : Str} (hR : X.mg "Refused" = some (.ref CR)) (hB : X.mg "BadMany" = some (.ref CB)) (T : X.mg "isinstance" = none) :
    GivesTo X ["asked", "refused_one"] "_law_ca_said" (defScope s_law_ca_said) g cdg (defBody s_law_ca_said) "asked" q (TTsaid X.K CR CB) := by
  intro f c' s H Q tl act hc h
  refine ⟨_, pss_one (ps_try_as (X := (cxOf C8.CX0 X.prog X.w X.K X.mg X.base ["asked", "refused_one"] "_law_ca_said" (defScope s_law_ca_said) g cdg X.A X.stack s H C8.E0).nox) (i := 1) (c := .ref CR)
      (tb := fun W D σ H => ∃ Ech : XK, (∀ cls d σ' H', Ech cls d H' → W cls d σ' H') ∧ σ[0]? = some (some (.ref f)) ∧ H c' = some (CodeO c' q) ∧ tl Ech H (fun v H' => 2 ≤ sizeLine ∧ ∀ p, H' p = none → D.rt (.ref p) (upd H' p (.tup [.str "told", v]))))
      rfl rfl sc_law_ca_said.nd rfl rfl ⟨by rfl, by decide, .inl hR⟩ LamX.takes0 (fun W pn xe tk _ => ?_) (fun a oe cls d pn hz hf => pss_guard (n := 2) (pss_one (ps_ret (pe_tup (pa_cons (pe_ifExp (pt_val (pe_callB (call_isX hz hf) (by rfl) T (by decide +kernel) (pa_cons (pv 1) (pa_cons (C8.pe_gc (v := .ref CB) (by rfl) ⟨_, hB, rfl⟩) pa_nil)))) pe_str pe_str) (pa_cons (pe_xfX hz hf (pv 1)) pa_nil))))))), ?_⟩
  · constructor
    intro pins s' σ H' D I h'
    obtain ⟨Ech, hW, h1, h2, h3⟩ := h'
    refine (pss_one (ps_ret (pe_tup (pa_cons pe_str (pa_cons (act W pn xe Ech _ _ tk hW) pa_nil))))).run pins s' σ H' D I ⟨h1, h2, h3⟩
  · refine ⟨saidE X.K CR CB Q, fun cls d σ' H' hE => ?_, rfl, hc, h⟩
    obtain ⟨e1, C, dd, fs, v, bm, rfl, ec, xf, hno, hk, rfl, hd, hl, q⟩ := hE
    refine ⟨true, e1, fun _ a _ hlen => ?_, fun z => by cases z⟩
    have g1 : (List.set σ' 1 (some (V.ref a)))[1]? = some (some (V.ref a)) := by
      rw [List.length_set] at hlen
      rw [List.getElem?_set_self (by omega)]
    refine ⟨_, g1, C, .ref CB, .ref CB, bm, dd, fs, rfl, ec, rfl, fun u r => r, hk, rfl, hd, _, rfl, ?_⟩
    cases bm with
    | true => exact iteT ⟨C, xf, hno, _, g1, rfl, rfl, dd, fs, v, rfl, hd, hl, (by show 2 ≤ sizeLine; decide), q⟩
    | false => exact iteF ⟨C, xf, hno, _, g1, rfl, rfl, dd, fs, v, rfl, hd, hl, (by show 2 ≤ sizeLine; decide), q⟩
end K25
end
section
set_option Elab.async false
set_option linter.all false
set_option maxRecDepth 100000
set_option maxHeartbeats 4000000
namespace LB
open PySem PySem.Spec PyProof.Rows L2 LamX Evl
section
variable {K : PySem.W.Frag}
mutual
theorem dp_extN {H H' : Hp} (e : ExtN H H') : ∀ (d : PyData) (v : V), Dp K H v d → Dp K H' v d
  | .none, _, h => by cases h; exact .non
  | .bool b, _, h => by cases h; exact .bl b
  | .int i, _, h => by cases h; exact .int i
  | .str x, _, h => by cases h; exact .str x
  | .list ds, _, h => by
    cases h with
    | lst hs ha => exact .lst (extN_l e hs) (dpAll_extN e ds _ ha)
  | .tuple ds, _, h => by
    cases h with
    | tup hs ha => exact .tup (extN_t e hs) (dpAll_extN e ds _ ha)
  | .dict _, _, h => by cases h
theorem dpAll_extN {H H' : Hp} (e : ExtN H H') : ∀ (ds : List PyData) (vs : List V), DpAll K H vs ds → DpAll K H' vs ds
  | [], _, h => by cases h; exact .nil
  | d :: ds, _, h => by
    cases h with
    | cons h1 h2 => exact .cons (dp_extN e d _ h1) (dpAll_extN e ds _ h2)
end
end
theorem extN_cut {S : List Addr} {H H' : Hp} (e : ExtN H H') : ExtN (cut S H) H' := fun a o h n => e a o (ex_cut a o h) n
theorem tabs_but {T : List (Addr × Str)} {H H' : Hp} {j : Addr} {xs : List V} (t : Tabs T H) (b : But [j] H H') (hj : H j = some (.lst xs)) : Tabs T H' := fun p hp => by
  obtain ⟨ps, h1, h2, h3⟩ := t p hp
  refine ⟨ps, b _ _ (by simpa using fun e : p.1 = j => by rw [e, hj] at h1; cases h1) h1, h2, fun pos cv hc => ?_⟩
  obtain ⟨c, e1, e2⟩ := h3 pos cv hc
  exact ⟨c, e1, b _ _ (by simpa using fun e : c = j => by rw [e, hj] at e2; cases e2) e2⟩
theorem tabs_put {T : List (Addr × Str)} {H : Hp} {j : Addr} {xs ys : List V} (t : Tabs T H) (hj : H j = some (.lst xs)) : Tabs T (upd H j (.lst ys)) := tabs_but (H' := upd H j (.lst ys)) t (But.put (by simp)) hj
theorem extN_but {H0 H H' : Hp} {j : Addr} (e : ExtN H0 H) (b : But [j] H H') (hj : H0 j = none) : ExtN H0 H' := fun a o h n => b a o (by simpa using fun z : a = j => by rw [z, hj] at h; cases h) (e a o h n)
end LB
namespace K25
open PySem PySem.Spec PyProof.Rows L2 LB LamX Evl
/-! the cases of sets -/
theorem lots_11 : LotsOk 1 5 [[1], [2], [3], [4], [5]] := ⟨by decide, by decide, by decide, by decide +kernel, by decide +kernel, by decide, by decide, fun l hl => by cases hl; decide +kernel, by decide +kernel⟩
theorem lots_24 : LotsOk 2 4 [[1, 2], [1, 3], [2, 3], [1, 4], [2, 4], [3, 4]] := ⟨by decide, by decide, by decide, by decide +kernel, by decide +kernel, by decide, by decide, fun l hl => by cases hl; decide +kernel, by decide +kernel⟩
theorem lots_25 : LotsOk 2 5 [[1, 2], [1, 3], [2, 3], [1, 4], [2, 4], [3, 4], [1, 5], [2, 5], [3, 5], [4, 5]] := ⟨by decide, by decide, by decide, by decide +kernel, by decide +kernel, by decide, by decide, fun l hl => by cases hl; decide +kernel, by decide +kernel⟩
theorem lots_35 : LotsOk 3 5 [[1, 2, 3], [1, 2, 4], [1, 3, 4], [2, 3, 4], [1, 2, 5], [1, 3, 5], [2, 3, 5], [1, 4, 5], [2, 4, 5], [3, 4, 5]] := ⟨by decide, by decide, by decide, by decide +kernel, by decide +kernel, by decide, by decide, fun l hl => by cases hl; decide +kernel, by decide +kernel⟩
theorem lots_45 : LotsOk 4 5 [[1, 2, 3, 4], [1, 2, 3, 5], [1, 2, 4, 5], [1, 3, 4, 5], [2, 3, 4, 5]] := ⟨by decide, by decide, by decide, by decide +kernel, by decide +kernel, by decide, by decide, fun l hl => by cases hl; decide +kernel, by decide +kernel⟩
theorem lots_13 : LotsOk 1 3 [[1], [2], [3]] := ⟨by decide, by decide, by decide, by decide +kernel, by decide +kernel, by decide, by decide, fun l hl => by cases hl; decide +kernel, by decide +kernel⟩
end K25
end
section
set_option Elab.async false
set_option linter.all false
set_option maxRecDepth 100000
set_option maxHeartbeats 4000000
namespace K25
open PySem PySem.Spec PyProof.Rows L2 LB LamX Evl
abbrev qLaw : Str := "law.<locals>.<lambda>"
def spLaw (K : PySem.W.Frag) (TT : List (Addr × Str)) : Sp := fun vs H Q _ => ∃ (a : Addr) (ns : List Int), vs = [.ref a] ∧ SqL K H a (ns.map V.int) ∧ ns.length ≤ 63 ∧ Tabs TT H ∧ ∀ H', Q (.bl true) H'
def BadRow (H : Hp) (v x : V) : Prop := ∃ t, v = .ref t ∧ H t = some (.tup [.str "BadMany", x])
def kN (n : Nat) : Nat := max 1 (min 4 n)
section
variable {P : Program} {w : World} {K : PySem.W.Frag} {mg : Str → Option Value} {base : Heap} {CB CR f1 f2 : Addr}
structure Ref2 (K : PySem.W.Frag) (mg : Str → Option Value) (CR CB : Addr) : Prop where
  hR : mg "Refused" = some (.ref CR)
  hB : mg "BadMany" = some (.ref CB)
  em : PySem.W.exmOne K (.ref CB) (.ref CR) = some true
  ec : ExcC K CB
  xf : XfC K CB
  no : PySem.W.findIn K (.ref CB) "what" = some none
  ki : PySem.W.kitOne K (.ref CB) (.ref CB) = some true
theorem said_bad (R : Ref2 K mg CR CB) {H : Hp} {x : Addr} {v : V} {Q : VK} (q : ∀ p, (upd H x (.xd [("what", v)])) p = none → Q (.ref p) (upd (upd H x (.xd [("what", v)])) p (.tup [.str "BadMany", v]))) : saidE K CR CB Q (.ref CB) (some x) (upd H x (.xd [("what", v)])) :=
  ⟨R.em, CB, x, _, v, true, rfl, R.ec, R.xf, R.no, R.ki, rfl, upd_same, rfl, q⟩
theorem cas_bad1 {H : Hp} {Q : VK} {E : XK} {v1 v2 : V} {d1 d2 : PyData} (D1 : Dp K H v1 d1) (D2 : Dp K H v2 d2) (w : wholeB d1 1 7 = false) (e : ∀ x, H x = none → E (.ref CB) (some x) (upd H x (.xd [("what", v1)]))) : spCascade K CB [v1, v2] H Q E :=
  ⟨v1, v2, d1, d2, rfl, D1, D2, fun _ => e, fun z => absurd (w.symm.trans z) (by decide), fun z => absurd (w.symm.trans z) (by decide)⟩
theorem cas_bad2 {H : Hp} {Q : VK} {E : XK} {v1 v2 : V} {d1 d2 : PyData} (D1 : Dp K H v1 d1) (D2 : Dp K H v2 d2) (w : wholeB d1 1 7 = true) (w2 : wholeB d2 0 1000000 = false) (e : ∀ x, H x = none → E (.ref CB) (some x) (upd H x (.xd [("what", v2)]))) : spCascade K CB [v1, v2] H Q E :=
  ⟨v1, v2, d1, d2, rfl, D1, D2, fun z => absurd (w.symm.trans z) (by decide), fun _ _ => e, fun _ z => absurd (w2.symm.trans z) (by decide)⟩
theorem sha_bad1 {H : Hp} {Q : VK} {E : XK} {v1 v2 : V} {d1 d2 : PyData} (D1 : Dp K H v1 d1) (D2 : Dp K H v2 d2) (w : wholeB d1 1 7 = false) (e : ∀ x, H x = none → E (.ref CB) (some x) (upd H x (.xd [("what", v1)]))) : spShadow K CB [v1, v2] H Q E :=
  ⟨v1, v2, d1, d2, rfl, D1, D2, fun _ => e, fun z => absurd (w.symm.trans z) (by decide), fun z => absurd (w.symm.trans z) (by decide)⟩
theorem sha_bad2 {H : Hp} {Q : VK} {E : XK} {v1 v2 : V} {d1 d2 : PyData} (D1 : Dp K H v1 d1) (D2 : Dp K H v2 d2) (w : wholeB d1 1 7 = true) (w2 : wholeB d2 0 1000000 = false) (e : ∀ x, H x = none → E (.ref CB) (some x) (upd H x (.xd [("what", v2)]))) : spShadow K CB [v1, v2] H Q E :=
  ⟨v1, v2, d1, d2, rfl, D1, D2, fun z => absurd (w.symm.trans z) (by decide), fun _ _ => e, fun _ z => absurd (w2.symm.trans z) (by decide)⟩
theorem row_told {TT : List (Addr × Str)} (R : Ref2 K mg CR CB) {σ : L2.St} {H : Hp} {Q : VK} {ta : TA} {v1 v2 x : V} {d1 d2 : PyData} (hT : Tabs TT H) (hσ : σ[8]? = some (some (.ref f1)) ∨ σ[8]? = some (some (.ref f2))) (ha : ∀ H1 (S : List V → Hp → Prop), S [v1, v2] H1 → ta σ H1 S)
    (D1 : Dp K H v1 d1) (D2 : Dp K H v2 d2) (bad : (wholeB d1 1 7 = false ∧ x = v1) ∨ (wholeB d1 1 7 = true ∧ wholeB d2 0 1000000 = false ∧ x = v2)) (q : ∀ (p : Addr) (H' : Hp), ExtN H H' → Tabs TT H' → H' p = some (.tup [.str "BadMany", x]) → Q (.ref p) H') :
    tLam TT (TTsaid K CR CB) (fun E => tCallVX 8 f1 f2 (spCascade K CB) (spShadow K CB) E ta) σ H Q := by
  refine ⟨hT, fun G eN TG => ?_⟩
  have D1' := dp_extN eN _ _ D1
  have D2' := dp_extN eN _ _ D2
  have fin : ∀ y, G y = none → saidE K CR CB Q (.ref CB) (some y) (upd G y (.xd [("what", x)])) := fun y hy => by
    refine said_bad R fun p hp => ?_
    have e1 := (Ex.new (o := .xd [("what", x)]) hy).trans (Ex.new (o := .tup [.str "BadMany", x]) hp)
    exact q p _ (eN.trans (ExtN.of e1)) (TG.ext e1) upd_same
  rcases hσ with h8 | h8
  · refine Or.inl ⟨h8, ha _ _ ?_⟩
    rcases bad with ⟨w, rfl⟩ | ⟨w, w2, rfl⟩
    · exact cas_bad1 D1' D2' w fin
    · exact cas_bad2 D1' D2' w w2 fin
  · refine Or.inr ⟨h8, ha _ _ ?_⟩
    rcases bad with ⟨w, rfl⟩ | ⟨w, w2, rfl⟩
    · exact sha_bad1 D1' D2' w fin
    · exact sha_bad2 D1' D2' w w2 fin
theorem extN_mut {H0 H : Hp} {p : Addr} {o : HO} (e : ExtN H0 H) (h : H0 p = none) : ExtN H0 (upd H p o) := fun a u ha n => by
  rw [upd_ne (ne_of_none ha h)]
  exact e a u ha n
theorem rows_dp {H : Hp} : ∀ {items xs : List V} {ds : List PyData}, Paired (BadRow H) items xs → DpAll K H xs ds → DpAll K H items (ds.map fun d => .tuple [.str "BadMany", d])
  | _, _, _, .nil, h => by cases h; exact .nil
  | _, _, _, .cons ⟨t, e1, e2⟩ r, h => by
    cases h with
    | cons h1 h2 =>
      subst e1
      exact .cons (.tup (Or.inl (Or.inl e2)) (.cons (.str _) (.cons h1 .nil))) (rows_dp r h2)
theorem odd1 : ∀ d ∈ oddW 1 7, wholeB d 1 7 = false ∧ fits 2 d = true := by decide +kernel
theorem odd2 : ∀ d ∈ oddW 0 1000000, wholeB d 0 1000000 = false ∧ fits 2 d = true := by decide +kernel
theorem fnL_of {x : Str} {st : Stmt} {N ps : List Str} {k : Nat} {sp : Sp} {f : Addr} {oc : Value} {od : Option Addr} {dV kV doc pm : Value} {an : Option Addr} {cdv ct : Value} {osl : Array (Option Value)}
    (lk : K.lookup f = some ⟨oc, od, .func (PySem.W.fnOf x x (defArgs st) (defBody st) (defScope st) dV kV doc pm an cdv ct), osl⟩) (hcd : PySem.W.codeIn K cdv x = true) (S : FnScope N ps (defScope st)) (len : ∀ vs H Q E, sp vs H Q E → vs.length = ps.length)
    (hbody : ∀ (A : Around) (outer : List Env) (s : Shared) (H : Hp) (vs : List V) (Q : VK) (E : XK), Room k (A.deeper (envOfC x (defScope st) s.heap.objs.size f cdv)) → sp vs H Q E →
      ∃ t, PSs (cxOf CX0 P w K mg base N x (defScope st) f cdv A outer s H E).nox (defBody st) t ∧ t { nx := fun _ H' => Q .non H', rt := Q } (start N vs) H) :
    FnOk P w K mg base CX0 (k + 1) f (PySem.W.fnOf x x (defArgs st) (defBody st) (defScope st) dV kV doc pm an cdv ct) ps sp := by
  refine fn_of lk hcd S len fun A outer s H vs Q E hr hsp => ?_
  obtain ⟨t, h, q⟩ := hbody A outer s H vs Q E hr hsp
  exact ⟨t, h.nox, q⟩
theorem ok_law {c cs PT : Addr} {TT : List (Addr × Str)} {fL : Addr} {oL : Value} {dL : Option Addr} {vL1 vL2 vL3 vL4 : Value} {aL : Option Addr} {tL : Value} {sL : Array (Option Value)}
    (lkL : K.lookup fL = some ⟨oL, dL, .func (PySem.W.fnOf "law" "law" (defArgs s_law) (defBody s_law) (defScope s_law) vL1 vL2 vL3 vL4 aL (.ref c) tL), sL⟩) (hcdL : PySem.W.codeIn K (.ref c) "law" = true) (DS : DnL K mg "_law_ca_said" s_law_ca_said ["asked"] cs) (T : Bt mg) (TB : TabB base mg c PT) (hmT : (PT, qLaw) ∈ TT) (hu : ∀ p ∈ TT, p.1 = PT → p.2 = qLaw) (R : Ref2 K mg CR CB)
    (f_law_pool : Cal P w K mg base 1 "_law_pool" (spPool K)) (f_law_ca_drawn_right : Cal P w K mg base 7 "_law_ca_drawn_right" spDrawn) (f_law_one : Cal P w K mg base 2 "_law_one" (spOne K)) (f_law_ca_lots_right : Cal P w K mg base 7 "_law_ca_lots_right" (spLotsR TT))
    (f_law_odd_whole : Cal P w K mg base 3 "_law_odd_whole" (spOdd K)) (f_law_like : Cal P w K mg base 6 "_law_like" (spLike K 4)) (f_cascade : CalX P w K mg base 5 "cascade" (spCascade K CB)) (f_shadow : CalX P w K mg base 5 "shadow" (spShadow K CB)) (v_cascade : mg "cascade" = some (.ref f1)) (v_shadow : mg "shadow" = some (.ref f2)) :
    FnOk P w K mg base CX0 8 fL (PySem.W.fnOf "law" "law" (defArgs s_law) (defBody s_law) (defScope s_law) vL1 vL2 vL3 vL4 aL (.ref c) tL) ["script"] (spLaw K TT) := by
  obtain ⟨fs, oc, od, dV, kV, doc, pm, an, ct, osl, lk, hcd, hks, hms, hbs⟩ := DS.ex
  refine fnL_of lkL hcdL sc_law (fun vs H Q E h => ?_) (fun A outer s H vs Q E hr h => ?_)
  · obtain ⟨a, ns, rfl, _⟩ := h
    rfl
  · obtain ⟨a, ns, rfl, S, hn63, hT, q⟩ := h
    refine ⟨_, (pss_cons (ps_for PassesOwn.never rfl (pi_range1 (by rfl) T.m_range (pa_cons (pe_callB (call_max2 rfl) (by rfl) T.m_max (by decide +kernel) (pa_cons pe_int (pa_cons (pe_callTy call_int1 (by rfl) T.m_int (by decide +kernel) (pa_cons (pe_callB (call_min2 rfl) (by rfl) T.m_min (by decide +kernel) (pa_cons pe_int (pa_cons (pe_callB call_len_seq (by rfl) T.m_len PySem.boot_len (pa_cons (pv 0) pa_nil)) pa_nil))) pa_nil)) pa_nil))) pa_nil)) (pg_name (i := 1) sc_law.nd rfl (Or.inl rfl)) (pss_cons (ps_set (i := 2) sc_law.nd rfl (Or.inl rfl) (LB.pe_c f_law_pool hr (by decide) (by rfl) (pa_cons (pv 0) (pa_cons (pv 1) pa_nil))))
      (pss_cons (ps_if (pt_not (pt_val (LB.pe_c f_law_ca_drawn_right hr (by decide) (by rfl) (pa_cons (pv 2) pa_nil)))) (pss_one (ps_ret pe_bl)) pss_nil)
      (pss_cons (ps_asg (LB.pe_c f_law_one hr (by decide) (by rfl) (pa_cons (pv 2) (pa_cons (pe_lst (pa_cons (pe_tup (pa_cons pe_int (pa_cons pe_int pa_nil))) (pa_cons (pe_tup (pa_cons pe_int (pa_cons pe_int pa_nil))) (pa_cons (pe_tup (pa_cons pe_int (pa_cons pe_int pa_nil))) (pa_cons (pe_tup (pa_cons pe_int (pa_cons pe_int pa_nil))) (pa_cons (pe_tup (pa_cons pe_int (pa_cons pe_int pa_nil))) (pa_cons (pe_tup (pa_cons pe_int (pa_cons pe_int pa_nil))) pa_nil))))))) pa_nil))) (pg_tup rfl (pgs_cons (pg_name (i := 3) sc_law.nd rfl (Or.inl rfl)) (pgs_cons (pg_name (i := 4) sc_law.nd rfl (Or.inl rfl)) pgs_nil))))
      (pss_cons (ps_if (pt_not (pt_val (LB.pe_c f_law_ca_lots_right hr (by decide) (by rfl) (pa_cons (pv 3) (pa_cons (pv 4) pa_nil))))) (pss_one (ps_ret pe_bl)) pss_nil)
      (pss_cons (ps_asg (pe_tup (pa_cons (LB.pe_c f_law_odd_whole hr (by decide) (by rfl) (pa_cons (pv 2) (pa_cons pe_int (pa_cons pe_int pa_nil)))) (pa_cons (LB.pe_c f_law_odd_whole hr (by decide) (by rfl) (pa_cons (pv 2) (pa_cons pe_int (pa_cons pe_int pa_nil)))) pa_nil))) (pg_tup rfl (pgs_cons (pg_name (i := 5) sc_law.nd rfl (Or.inr rfl)) (pgs_cons (pg_name (i := 6) sc_law.nd rfl (Or.inr rfl)) pgs_nil))))
      (pss_cons (ps_set (i := 7) sc_law.nd rfl (Or.inl rfl) (pe_lst pa_nil))
      (pss_cons (ps_for PassesOwn.never rfl (pi_list (pe_lst (pa_cons (C8.pe_gc (v := .ref f1) (by rfl) ⟨_, v_cascade, rfl⟩) (pa_cons (C8.pe_gc (v := .ref f2) (by rfl) ⟨_, v_shadow, rfl⟩) pa_nil)))) (pg_name (i := 8) sc_law.nd rfl (Or.inr rfl)) (pss_cons (ps_expr (pe_bm PySem.F.plainAttrs_list PySem.F.slot_list_append PySem.F.type_list_append mt_append (pv 7) (pa_cons
          (pe_lamcall (T := TT) (TT := TTsaid K CR CB) (k := 5) (Ng := ["asked", "refused_one"]) (t := fun E => tCallVX 8 f1 f2 (spCascade K CB) (spShadow K CB) E (tCons (tVar 5) (tCons (tVar 6) tNil))) (by rfl) hms hks lk hcd hbs sc_law_ca_said rfl (Or.inl rfl) (said_gives R.hR R.hB T.m_isinstance) TB rfl hmT hu hr (lamS_by (by show lamSB (defScope s_law) _ = true; decide +kernel)) (by rfl) (fun _ _ _ _ _ => rfl)
            (fun A' outer' s' H' E' f' c' hr' => pe_cvX (i := 8) (takes_of rfl rfl rfl rfl) (calX_at f_cascade v_cascade) (calX_at f_shadow v_shadow) hr' (by decide) (by decide) rfl (Or.inr (Or.inr rfl)) (pa_cons (pv 5) (pa_cons (pv 6) pa_nil)))) pa_nil)))
      (pss_one (ps_expr (pe_bm PySem.F.plainAttrs_list PySem.F.slot_list_append PySem.F.type_list_append mt_append (pv 7) (pa_cons
          (pe_lamcall (T := TT) (TT := TTsaid K CR CB) (k := 5) (Ng := ["asked", "refused_one"]) (t := fun E => tCallVX 8 f1 f2 (spCascade K CB) (spShadow K CB) E (tCons (tC (.int 3)) (tCons (tVar 6) tNil))) (by rfl) hms hks lk hcd hbs sc_law_ca_said rfl (Or.inl rfl) (said_gives R.hR R.hB T.m_isinstance) TB rfl hmT hu hr (lamS_by (by show lamSB (defScope s_law) _ = true; decide +kernel)) (by rfl) (fun _ _ _ _ _ => rfl)
            (fun A' outer' s' H' E' f' c' hr' => pe_cvX (i := 8) (takes_of rfl rfl rfl rfl) (calX_at f_cascade v_cascade) (calX_at f_shadow v_shadow) hr' (by decide) (by decide) rfl (Or.inr (Or.inr rfl)) (pa_cons pe_int (pa_cons (pv 6) pa_nil)))) pa_nil))))))
      (pss_one (ps_if (pt_not (pt_val (LB.pe_c f_law_like hr (by decide) (by rfl) (pa_cons (pv 7) (pa_cons (pe_op op_rep (pe_lst (pa_cons (pe_tup (pa_cons pe_str (pa_cons (pv 5) pa_nil))) (pa_cons (pe_tup (pa_cons pe_str (pa_cons (pv 6) pa_nil))) pa_nil))) pe_int) pa_nil))))) (pss_one (ps_ret pe_bl)) pss_nil))))))))))
      (pss_cons (ps_set (i := 7) sc_law.nd rfl (Or.inl rfl) (pe_lst (pa_cons (LB.pe_cx f_cascade hr (by decide) (by rfl) (pa_cons pe_int (pa_cons pe_int pa_nil))) (pa_cons (LB.pe_cx f_shadow hr (by decide) (by rfl) (pa_cons pe_int (pa_cons pe_int pa_nil))) (pa_cons (LB.pe_cx f_shadow hr (by decide) (by rfl) (pa_cons pe_int (pa_cons pe_int pa_nil))) (pa_cons (LB.pe_cx f_cascade hr (by decide) (by rfl) (pa_cons pe_int (pa_cons pe_int pa_nil))) (pa_cons (LB.pe_cx f_shadow hr (by decide) (by rfl) (pa_cons pe_int (pa_cons pe_int pa_nil))) (pa_cons (LB.pe_cx f_shadow hr (by decide) (by rfl) (pa_cons pe_int (pa_cons pe_int pa_nil))) pa_nil))))))))
      (pss_one (ps_ret (LB.pe_c f_law_like hr (by decide) (by rfl) (pa_cons (pv 7) (pa_cons (pe_lst (pa_cons (pe_tup (pa_cons (pe_tup (pa_cons pe_int (pa_cons pe_int pa_nil))) (pa_cons (pe_tup (pa_cons pe_int (pa_cons pe_int pa_nil))) pa_nil))) (pa_cons pe_int (pa_cons pe_int (pa_cons (pe_tup pa_nil) (pa_cons pe_int (pa_cons pe_int pa_nil))))))) pa_nil))))))), ?_⟩
    refine ⟨_, rfl, a, _, rfl, Or.inl S, _, _, rfl, Or.inl ⟨_, rfl, _, _, rfl, ?_⟩⟩
    obtain ⟨N, hN⟩ : ∃ N : Int, N = (if (1 : Int) < (if ((ns.map V.int).length : Int) < 4 then ((ns.map V.int).length : Int) else 4) then (if ((ns.map V.int).length : Int) < 4 then ((ns.map V.int).length : Int) else 4) else 1) := ⟨_, rfl⟩
    rw [← hN]
    rw [List.length_map] at hN
    refine ⟨_, rfl, by omega, by omega, for_range (lo := 0) (n := N.toNat) (fun i σ H' => ∃ v1 v2 v3 v4 v5 v6 v7 v8, σ = [some (V.ref a), v1, v2, v3, v4, v5, v6, v7, v8] ∧ ExtN H H' ∧ Tabs TT H') ⟨none, none, none, none, none, none, none, none, rfl, ExtN.refl _, hT⟩ ?_ ?_⟩
    · rintro k σ H0 hk ⟨v1, v2, v3, v4, v5, v6, v7, v8, rfl, e0, T0⟩
      have S0 : SqL K H0 a (ns.map V.int) := extN_l e0 S
      have hk4 : k < 4 := by
        split at hN
        · split at hN <;> omega
        · omega
      have hkn : k < ns.length ∨ ns = [] := by
        by_cases hns : ns = []
        · exact Or.inr hns
        · have : 1 ≤ ns.length := by
            cases ns with
            | nil => exact absurd rfl hns
            | cons x r => simp
          refine Or.inl ?_
          split at hN
          · split at hN <;> omega
          · omega
      refine ⟨_, rfl, _, rfl, a, ns, k, by rw [Int.zero_add]; rfl, S0, by omega, hkn, fun j H1 nj e1 J1 => ?_⟩
      refine ⟨_, rfl, j, rfl, J1, fun H2 J2 b2 => ⟨_, rfl, iteF ?_⟩⟩
      have e02 : Ex H0 H2 := ((But.of e1).trans b2).ex (fun z hz => by rw [List.mem_singleton.mp hz]; exact nj)
      have T2 : Tabs TT H2 := T0.ext e02
      have h2 : 2 ≤ sizeLine := by decide
      refine ⟨_, rfl, h2, fun t1 g1 => ⟨h2, fun t2 g2 => ⟨h2, fun t3 g3 => ⟨h2, fun t4 g4 => ⟨h2, fun t5 g5 => ⟨h2, fun t6 g6 => ⟨(by show 6 ≤ sizeLine; decide), fun p gp => ?_⟩⟩⟩⟩⟩⟩⟩
      have y1 := Ex.new (o := .tup [V.int 1, V.int 5]) g1
      have y2 := Ex.new (o := .tup [V.int 2, V.int 4]) g2
      have y3 := Ex.new (o := .tup [V.int 2, V.int 5]) g3
      have y4 := Ex.new (o := .tup [V.int 3, V.int 5]) g4
      have y5 := Ex.new (o := .tup [V.int 4, V.int 5]) g5
      have y6 := Ex.new (o := .tup [V.int 1, V.int 3]) g6
      have yp := Ex.new (o := .lst [V.ref t1, V.ref t2, V.ref t3, V.ref t4, V.ref t5, V.ref t6]) gp
      have z6 := y6.trans yp
      have z5 := y5.trans z6
      have z4 := y4.trans z5
      have z3 := y3.trans z4
      have z2 := y2.trans z3
      have z1 := y1.trans z2
      have m1 := z2 t1 _ upd_same
      have m2 := z3 t2 _ upd_same
      have m3 := z4 t3 _ upd_same
      have m4 := z5 t4 _ upd_same
      have m5 := z6 t5 _ upd_same
      have m6 := yp t6 _ upd_same
      have mp : upd (upd (upd (upd (upd (upd (upd H2 t1 (.tup [V.int 1, V.int 5])) t2 (.tup [V.int 2, V.int 4])) t3 (.tup [V.int 2, V.int 5])) t4 (.tup [V.int 3, V.int 5])) t5 (.tup [V.int 4, V.int 5])) t6 (.tup [V.int 1, V.int 3])) p (.lst [V.ref t1, V.ref t2, V.ref t3, V.ref t4, V.ref t5, V.ref t6]) p = some (.lst [V.ref t1, V.ref t2, V.ref t3, V.ref t4, V.ref t5, V.ref t6]) := upd_same
      have npj : p ≠ j := fun e => by
        obtain ⟨a1, b1, hj1, _⟩ := J2
        have := (y1.trans (y2.trans (y3.trans (y4.trans (y5.trans y6))))) _ _ hj1
        rw [← e, gp] at this
        cases this
      clear yp z6 z5 z4 z3 z2 y1 y2 y3 y4 y5 y6 g1 g2 g3 g4 g5 g6 gp
      generalize upd (upd (upd (upd (upd (upd (upd H2 t1 (.tup [V.int 1, V.int 5])) t2 (.tup [V.int 2, V.int 4])) t3 (.tup [V.int 2, V.int 5])) t4 (.tup [V.int 3, V.int 5])) t5 (.tup [V.int 4, V.int 5])) t6 (.tup [V.int 1, V.int 3])) p (.lst [V.ref t1, V.ref t2, V.ref t3, V.ref t4, V.ref t5, V.ref t6]) = H3 at m1 m2 m3 m4 m5 m6 mp z1 ⊢
      have J3 : Jar H3 j := by
        obtain ⟨a1, b1, hj1, hJ⟩ := J2
        exact ⟨a1, b1, z1 _ _ hj1, hJ⟩
      refine ⟨j, p, _, rfl, J3, Or.inl (Or.inl (Or.inl (by rw [cut_out (by simpa using npj)]; exact mp))), (by show 1 ≤ 6; decide), (by show 6 < 1073741824; decide), fun i v H4 hv J4 b4 => ?_⟩
      have pick : ∃ (t : Addr) (kk mm : Nat) (z : List (List Int)), v = .ref t ∧ H3 t = some (.tup [.int (kk : Nat), .int (mm : Nat)]) ∧ LotsOk kk mm z := by
        match i, hv with
        | 0, hv => cases hv; exact ⟨t1, 1, 5, _, rfl, m1, lots_11⟩
        | 1, hv => cases hv; exact ⟨t2, 2, 4, _, rfl, m2, lots_24⟩
        | 2, hv => cases hv; exact ⟨t3, 2, 5, _, rfl, m3, lots_25⟩
        | 3, hv => cases hv; exact ⟨t4, 3, 5, _, rfl, m4, lots_35⟩
        | 4, hv => cases hv; exact ⟨t5, 4, 5, _, rfl, m5, lots_45⟩
        | 5, hv => cases hv; exact ⟨t6, 1, 3, _, rfl, m6, lots_13⟩
        | i + 6, hv => simp at hv
      obtain ⟨t, kk, mm, z, rfl, ht, LO⟩ := pick
      have ntj : t ≠ j := fun e => by
        obtain ⟨a1, b1, hj1, _⟩ := J3
        rw [← e, ht] at hj1
        cases hj1
      have ht4 := b4 t _ (by simpa using ntj) ht
      have e04 : Ex H0 H4 := ((But.of (e02.trans z1)).trans b4).ex (fun z hz => by rw [List.mem_singleton.mp hz]; exact nj)
      have T4 : Tabs TT H4 := T0.ext e04
      refine ⟨t, _, rfl, Or.inl (Or.inl ht4), rfl, _, _, rfl, _, _, rfl, rfl, _, rfl, _, rfl, kk, mm, z, rfl, LO, T4, fun H5 e45 T5 => ⟨_, rfl, iteF ?_⟩⟩
      have J5 : Jar H5 j := by
        obtain ⟨a1, b1, hj1, hJ⟩ := J4
        exact ⟨a1, b1, e45 _ _ hj1 (fun ps z => by cases z), hJ⟩
      refine ⟨_, rfl, j, 1, 7, rfl, J5, fun far dF H6 hdF J6 b6 dpF => ?_⟩
      refine ⟨_, rfl, j, 0, 1000000, rfl, J6, fun wide dW H7 hdW J7 b7 dpW => ?_⟩
      have D7F := dpF.up b7.cut
      have e57 : But [j] H5 H7 := b6.trans b7
      have j5 : ∃ xs, H5 j = some (.lst xs) := by
        obtain ⟨a1, b1, hj1, _⟩ := J5
        exact ⟨_, hj1⟩
      obtain ⟨xj, hxj⟩ := j5
      have T7 : Tabs TT H7 := tabs_but T5 e57 hxj
      have e07 : ExtN H H7 := fun b o hb nb => by
        have hb0 := e0 _ _ hb nb
        have nbj : b ≠ j := fun z => by
          rw [z, nj] at hb0
          cases hb0
        exact e57 _ _ (by simpa using nbj) (e45 _ _ (e04 _ _ hb0) nb)
      refine ⟨h2, fun tp htp => ⟨tp, _, rfl, Or.inl (Or.inl upd_same), rfl, _, _, rfl, _, _, rfl, rfl, Nat.zero_le _, fun Ld hLd => ⟨h2, fun LL hLL => ?_⟩⟩⟩
      have w1 := Ex.new (o := .tup [far, wide]) htp
      have w2 := Ex.new (o := .lst []) hLd
      have w3 := Ex.new (o := .lst [V.ref f1, V.ref f2]) hLL
      have hL1 : upd (upd (upd H7 tp (.tup [far, wide])) Ld (.lst [])) LL (.lst [V.ref f1, V.ref f2]) Ld = some (.lst []) := w3 Ld _ upd_same
      have nLL : Ld ≠ LL := ne_of_none (H := upd (upd H7 tp (.tup [far, wide])) Ld (.lst [])) (a := Ld) upd_same hLL
      have hL2 : upd (upd (upd H7 tp (.tup [far, wide])) Ld (.lst [])) LL (.lst [V.ref f1, V.ref f2]) LL = some (.lst [V.ref f1, V.ref f2]) := upd_same
      have eBS : ExtN (upd H7 tp (.tup [far, wide])) (upd (upd (upd H7 tp (.tup [far, wide])) Ld (.lst [])) LL (.lst [V.ref f1, V.ref f2])) := ExtN.of (w2.trans w3)
      have TS : Tabs TT (upd (upd (upd H7 tp (.tup [far, wide])) Ld (.lst [])) LL (.lst [V.ref f1, V.ref f2])) := T7.ext ((w1.trans w2).trans w3)
      have eB : ExtN H (upd H7 tp (.tup [far, wide])) := e07.trans (ExtN.of w1)
      have DB1 : Dp K (upd H7 tp (.tup [far, wide])) far dF := (D7F.up ex_cut).up w1
      have DB2 : Dp K (upd H7 tp (.tup [far, wide])) wide dW := (dpW.up ex_cut).up w1
      generalize upd (upd (upd H7 tp (.tup [far, wide])) Ld (.lst [])) LL (.lst [V.ref f1, V.ref f2]) = HS at hL1 hL2 eBS TS ⊢
      generalize upd H7 tp (.tup [far, wide]) = HB at eBS eB DB1 DB2 hLd
      clear w1 w2 w3
      obtain ⟨of1, of2⟩ := odd1 dF hdF
      obtain ⟨ow1, ow2⟩ := odd2 dW hdW
      refine ⟨LL, rfl, ⟨_, Or.inl (Or.inl hL2)⟩, for_list (K := K) (a := LL) (xs := [V.ref f1, V.ref f2]) (fun i σ H' => ∃ v8', σ = [some (V.ref a), some (V.int (0 + (k : Int))), some (V.ref j), some (V.int (kk : Nat)), some (V.int (mm : Nat)), some far, some wide, some (V.ref Ld), v8'] ∧ ExtN HB H' ∧ Tabs TT H' ∧ H' LL = some (.lst [V.ref f1, V.ref f2]) ∧ ∃ items, H' Ld = some (.lst items) ∧ Paired (BadRow H') items (List.replicate i [far, wide]).flatten)
        ⟨_, rfl, eBS, TS, hL2, [], hL1, .nil⟩ (fun i σ H' _ ⟨_, _, _, _, h, _⟩ => Or.inl (Or.inl h)) ?_ ?_⟩
      · rintro i x σ H' hx ⟨v8', rfl, eH, TH, hLL', items, hLd', hrows⟩
        have hx12 : x = .ref f1 ∨ x = .ref f2 := by
          match i, hx with
          | 0, hx => cases hx; exact Or.inl rfl
          | 1, hx => cases hx; exact Or.inr rfl
          | i + 2, hx => simp at hx
        have hi2 : i < 2 := (List.getElem?_eq_some_iff.mp hx).1
        have hlen := Paired.length hrows
        have hl4 : items.length ≤ 4 := by
          rw [hlen, List.length_flatten, List.map_replicate, List.sum_replicate_nat]
          simp only [List.length_cons, List.length_nil]
          omega
        have h8 : ∀ (y : V), (y = .ref f1 ∨ y = .ref f2) → some (some y) = some (some (V.ref f1)) ∨ some (some y) = some (some (V.ref f2)) := fun y hy => hy.elim (fun e => Or.inl (by rw [e])) (fun e => Or.inr (by rw [e]))
        refine ⟨_, rfl, Or.inl ⟨rfl, _, Or.inl (Or.inl hLd')⟩, ?_⟩
        refine row_told (x := far) R TH (h8 x hx12) (fun H1 S h => ⟨_, rfl, _, rfl, h⟩) (dp_extN eH _ _ DB1) (dp_extN eH _ _ DB2) (Or.inl ⟨of1, rfl⟩) fun p1 G eG TG hp1 => ?_
        have hLdG := eG _ _ hLd' (fun ps z => by cases z)
        refine ⟨Ld, items, _, rfl, rfl, hLdG, Evl.sz_lt (by omega), ?_⟩
        have np1 : p1 ≠ Ld := fun e => by rw [e, hLdG] at hp1; cases hp1
        have eG2 : ExtN HB (upd G Ld (.lst (items ++ [V.ref p1]))) := extN_mut (eH.trans eG) hLd
        have TG2 : Tabs TT (upd G Ld (.lst (items ++ [V.ref p1]))) := tabs_put TG hLdG
        have hrows2 : Paired (BadRow (upd G Ld (.lst (items ++ [V.ref p1])))) (items ++ [V.ref p1]) ((List.replicate i [far, wide]).flatten ++ [far]) := by
          refine Paired.snoc (Paired.mapP hrows fun v y ⟨t, h1, h3⟩ => ⟨t, h1, ?_⟩) ⟨p1, rfl, by rw [upd_ne np1]; exact hp1⟩
          have h4 := eG _ _ h3 (fun ps z => by cases z)
          rw [upd_ne (fun e => by rw [e, hLdG] at h4; cases h4)]
          exact h4
        have hLL2 : upd G Ld (.lst (items ++ [V.ref p1])) LL = some (.lst [V.ref f1, V.ref f2]) := by
          rw [upd_ne nLL.symm]
          exact eG _ _ hLL' (fun ps z => by cases z)
        have hLd2 : upd G Ld (.lst (items ++ [V.ref p1])) Ld = some (.lst (items ++ [V.ref p1])) := upd_same
        generalize upd G Ld (.lst (items ++ [V.ref p1])) = G1 at eG2 TG2 hrows2 hLL2 hLd2 ⊢
        refine ⟨_, rfl, Or.inl ⟨rfl, _, Or.inl (Or.inl hLd2)⟩, ?_⟩
        refine row_told (x := wide) R TG2 (h8 x hx12) (fun H1 S h => ⟨_, rfl, h⟩) (d1 := .int 3) (.int 3) (dp_extN eG2 _ _ DB2) (Or.inr ⟨by decide, ow1, rfl⟩) fun p2 G2 eG3 TG3 hp2 => ?_
        have hLdG2 := eG3 _ _ hLd2 (fun ps z => by cases z)
        have np2 : p2 ≠ Ld := fun e => by rw [e, hLdG2] at hp2; cases hp2
        refine ⟨Ld, items ++ [V.ref p1], _, rfl, rfl, hLdG2, Evl.sz_lt (by rw [List.length_append]; simp only [List.length_cons, List.length_nil]; omega), _, rfl, extN_mut (eG2.trans eG3) hLd, tabs_put TG3 hLdG2, ?_, _, upd_same, ?_⟩
        · rw [upd_ne nLL.symm]
          exact eG3 _ _ hLL2 (fun ps z => by cases z)
        · have hfl : (List.replicate (i + 1) [far, wide]).flatten = ((List.replicate i [far, wide]).flatten ++ [far]) ++ [wide] := by
            rw [List.replicate_succ', List.flatten_append, List.flatten_singleton, List.append_assoc]
            rfl
          rw [hfl]
          refine Paired.snoc (Paired.mapP hrows2 fun v y ⟨t, h1, h3⟩ => ⟨t, h1, ?_⟩) ⟨p2, rfl, by rw [upd_ne np2]; exact hp2⟩
          have h4 := eG3 _ _ h3 (fun ps z => by cases z)
          rw [upd_ne (fun e => by rw [e, hLdG2] at h4; cases h4)]
          exact h4
      · rintro σ H' ⟨v8', rfl, eH, TH, hLL', items, hLd', hrows⟩
        have DE1 := dp_extN eH _ _ DB1
        have DE2 := dp_extN eH _ _ DB2
        have all4 : DpAll K H' [far, wide, far, wide] [dF, dW, dF, dW] := .cons DE1 (.cons DE2 (.cons DE1 (.cons DE2 .nil)))
        have hfits : fits 4 (.list ([dF, dW, dF, dW].map fun d => PyData.tuple [.str "BadMany", d])) = true := by
          show (decide _ && ((decide _ && (fits 2 (.str "BadMany") && (fits 2 dF && true))) && ((decide _ && (fits 2 (.str "BadMany") && (fits 2 dW && true))) && ((decide _ && (fits 2 (.str "BadMany") && (fits 2 dF && true))) && ((decide _ && (fits 2 (.str "BadMany") && (fits 2 dW && true))) && true))))) = true
          rw [of2, ow2]
          rfl
        have hD1 := rows_dp hrows all4
        refine ⟨_, rfl, _, rfl, h2, fun u1 hu1 => ⟨_, rfl, h2, fun u2 hu2 => ⟨h2, fun ul hul => ?_⟩⟩⟩
        have x1 := Ex.new (o := .tup [.str "BadMany", far]) hu1
        have x2 := Ex.new (o := .tup [.str "BadMany", wide]) hu2
        have x3 := Ex.new (o := .lst [V.ref u1, V.ref u2]) hul
        refine ⟨ul, 2, _, rfl, rfl, upd_same, by decide, by decide, (by show 4 ≤ sizeLine; decide), fun ur hur => ?_⟩
        have x4 := Ex.new (o := .lst (List.replicate (2 : Int).toNat [V.ref u1, V.ref u2]).flatten) hur
        have xx := ((x1.trans x2).trans x3).trans x4
        have hr1 : BadRow (upd (upd (upd (upd H' u1 (.tup [.str "BadMany", far])) u2 (.tup [.str "BadMany", wide])) ul (.lst [V.ref u1, V.ref u2])) ur (.lst (List.replicate (2 : Int).toNat [V.ref u1, V.ref u2]).flatten)) (.ref u1) far := ⟨u1, rfl, x4 _ _ (x3 _ _ (x2 _ _ upd_same))⟩
        have hr2 : BadRow (upd (upd (upd (upd H' u1 (.tup [.str "BadMany", far])) u2 (.tup [.str "BadMany", wide])) ul (.lst [V.ref u1, V.ref u2])) ur (.lst (List.replicate (2 : Int).toNat [V.ref u1, V.ref u2]).flatten)) (.ref u2) wide := ⟨u2, rfl, x4 _ _ (x3 _ _ upd_same)⟩
        have hD2 := rows_dp (.cons hr1 (.cons hr2 (.cons hr1 (.cons hr2 .nil)))) (all4.up xx)
        refine ⟨_, _, _, rfl, .lst (Or.inl (Or.inl (xx _ _ hLd'))) (hD1.up xx), .lst (Or.inl (Or.inl upd_same)) hD2, hfits, fun H8 e8 => ⟨_, rfl, iteF ?_⟩⟩
        have e9 := xx.trans e8
        exact ⟨_, _, _, _, _, _, _, _, rfl, eB.trans (eH.trans (ExtN.of e9)), TH.ext e9⟩
    · rintro σ H0 ⟨v1, v2, v3, v4, v5, v6, v7, v8, rfl, e0, T0⟩
      dsimp only [tSeq, tAsg, tLst, tCons, tCall, tC, tNil, List.cons_append, List.nil_append]
      refine cascade_use (k := 3) (n := 5) (by decide) (by decide) (by decide) fun p1 H1 i1 _ e1 hp1 d1 => ?_
      refine shadow_use (k := 3) (n := 5) (by decide) (by decide) (by decide) fun H2 e2 => ?_
      refine shadow_use (k := 2) (n := 4) (by decide) (by decide) (by decide) fun H3 e3 => ?_
      refine cascade_use (k := 4) (n := 0) (by decide) (by decide) (by decide) fun p2 H4 i2 _ e4 hp2 d2 => ?_
      refine shadow_use (k := 1) (n := 0) (by decide) (by decide) (by decide) fun H5 e5 => ?_
      refine shadow_use (k := 1) (n := 9) (by decide) (by decide) (by decide) fun H6 e6 => ?_
      refine ⟨(by show 6 ≤ sizeLine; decide), fun l1 hl1 => ?_⟩
      have x1 := Ex.new (o := .lst [V.ref p1, V.int ((shad 3 5 : Nat) : Int), V.int ((shad 2 4 : Nat) : Int), V.ref p2, V.int ((shad 1 0 : Nat) : Int), V.int ((shad 1 9 : Nat) : Int)]) hl1
      have e46 := (e5.trans e6).trans x1
      have e16 := (((e2.trans e3).trans e4)).trans e46
      have c1 : casc 3 5 = [(4, 3), (2, 2)] := by decide +kernel
      have c2 : casc 4 0 = [] := by decide +kernel
      have s1 : shad 3 5 = 8 := by decide +kernel
      have s2 : shad 2 4 = 4 := by decide +kernel
      have s3 : shad 1 0 = 0 := by decide +kernel
      have s4 : shad 1 9 = 1 := by decide +kernel
      have D1 := d1.up e16
      have D2 := d2.up e46
      rw [c1] at D1
      rw [c2] at D2
      have P1 : SqT K (upd H6 l1 (.lst [V.ref p1, V.int ((shad 3 5 : Nat) : Int), V.int ((shad 2 4 : Nat) : Int), V.ref p2, V.int ((shad 1 0 : Nat) : Int), V.int ((shad 1 9 : Nat) : Int)])) p1 i1 := Or.inl (Or.inl (e16 _ _ hp1))
      have P2 : SqT K (upd H6 l1 (.lst [V.ref p1, V.int ((shad 3 5 : Nat) : Int), V.int ((shad 2 4 : Nat) : Int), V.ref p2, V.int ((shad 1 0 : Nat) : Int), V.int ((shad 1 9 : Nat) : Int)])) p2 i2 := Or.inl (Or.inl (e46 _ _ hp2))
      have hl : upd H6 l1 (.lst [V.ref p1, V.int ((shad 3 5 : Nat) : Int), V.int ((shad 2 4 : Nat) : Int), V.ref p2, V.int ((shad 1 0 : Nat) : Int), V.int ((shad 1 9 : Nat) : Int)]) l1 = some (.lst [V.ref p1, V.int ((8 : Nat) : Int), V.int ((4 : Nat) : Int), V.ref p2, V.int ((0 : Nat) : Int), V.int ((1 : Nat) : Int)]) := by
        rw [upd_same, s1, s2, s3, s4]
      generalize upd H6 l1 (.lst [V.ref p1, V.int ((shad 3 5 : Nat) : Int), V.int ((shad 2 4 : Nat) : Int), V.ref p2, V.int ((shad 1 0 : Nat) : Int), V.int ((shad 1 9 : Nat) : Int)]) = H7 at P1 P2 hl D1 D2 ⊢
      have DL : Dp K H7 (.ref l1) (.list [.tuple [dp2 (4, 3), dp2 (2, 2)], .int 8, .int 4, .tuple [], .int 0, .int 1]) := .lst (Or.inl (Or.inl hl)) (.cons (.tup P1 D1) (.cons (.int _) (.cons (.int _) (.cons (.tup P2 D2) (.cons (.int _) (.cons (.int _) .nil))))))
      have h2 : 2 ≤ sizeLine := by decide
      refine ⟨_, rfl, h2, fun a1 g1 => ⟨h2, fun a2 g2 => ⟨h2, fun a3 g3 => ⟨Nat.zero_le _, fun a4 g4 => ⟨(by show 6 ≤ sizeLine; decide), fun l2 g5 => ?_⟩⟩⟩⟩⟩
      have y1 := Ex.new (o := .tup [V.int 4, V.int 3]) g1
      have y2 := Ex.new (o := .tup [V.int 2, V.int 2]) g2
      have y3 := Ex.new (o := .tup [V.ref a1, V.ref a2]) g3
      have y4 := Ex.new (o := .tup []) g4
      have y5 := Ex.new (o := .lst [V.ref a3, V.int 8, V.int 4, V.ref a4, V.int 0, V.int 1]) g5
      have z4 := y4.trans y5
      have z3 := y3.trans z4
      have z2 := y2.trans z3
      have q1 := z2 a1 _ upd_same
      have q2 := z3 a2 _ upd_same
      have q3 := z4 a3 _ upd_same
      have q4 := y5 a4 _ upd_same
      refine ⟨_, _, _, rfl, DL.up (y1.trans z2), .lst (Or.inl (Or.inl upd_same)) (.cons (.tup (Or.inl (Or.inl q3)) (.cons (.tup (Or.inl (Or.inl q1)) (.cons (.int _) (.cons (.int _) .nil))) (.cons (.tup (Or.inl (Or.inl q2)) (.cons (.int _) (.cons (.int _) .nil))) .nil))) (.cons (.int _) (.cons (.int _) (.cons (.tup (Or.inl (Or.inl q4)) .nil) (.cons (.int _) (.cons (.int _) .nil)))))), by decide, fun H' _ => q H'⟩
end
end K25
end
section
set_option Elab.async false
set_option linter.all false
set_option maxRecDepth 100000
set_option maxHeartbeats 4000000
/-! the end of a law: facts of the written part, and the law's call -/
namespace LB
open PySem PySem.Spec PyProof.Rows L2 LamX
/-- a def as the written part has it; c its code's address -/
structure DnK (K : PySem.W.Frag) (x : Str) (st : Stmt) (f c : Addr) : Prop where
  ex : ∃ (oc : Value) (od : Option Addr) (kV doc pm : Value) (an : Option Addr) (ct : Value) (osl : Array (Option Value)), PySem.W.nsIn K mainGlobals x = some (some (.ref f)) ∧
    K.lookup f = some ⟨oc, od, .func (PySem.W.fnOf x x (defArgs st) (defBody st) (defScope st) .none kV doc pm an (.ref c) ct), osl⟩ ∧ PySem.W.codeIn K (.ref c) x = true ∧ PySem.W.keepIn K (.ref f) = true
theorem dnK_mk {K : PySem.W.Frag} {x : Str} {st : Stmt} {f c : Addr} {oc : Value} {od : Option Addr} {kV doc pm : Value} {an : Option Addr} {ct : Value} {osl : Array (Option Value)} (a : PySem.W.nsIn K mainGlobals x = some (some (.ref f)))
    (l : K.lookup f = some ⟨oc, od, .func (PySem.W.fnOf x x (defArgs st) (defBody st) (defScope st) .none kV doc pm an (.ref c) ct), osl⟩) (cd : PySem.W.codeIn K (.ref c) x = true) (k : PySem.W.keepIn K (.ref f) = true) : DnK K x st f c := ⟨⟨oc, od, kV, doc, pm, an, ct, osl, a, l, cd, k⟩⟩
theorem oex_mk {K : PySem.W.Frag} {C N : Addr} {nm q : Str} {bs bm : List Value} {sn : List Str} {sub : List Value} {ab : Bool} {col : Option Bool} {dd : Option Addr} {k0 k1 k2 k3 k5 : Option Value}
    (cl : K.lookup C = some (excClassObj nm q C N bs bm true sn sub ab col dd k0 k1 k2 k3 k5 "ValueError.__new__")) (hb : PySem.HandSPX.refsVE bm = true) (sa : PySem.W.findIn K (.ref C) "__setattr__" = some (some (.builtin "object.__setattr__")))
    (ex : PySem.W.subIn K (.ref C) (.type "BaseException") = some true) (ty : PySem.W.typeIn K (.ref C) = some (.type "type")) (kc : PySem.W.keepIn K (.ref C) = true) : OexC K C := ⟨⟨_, _, _, _, _, _, _, _, _, _, _, _, _, _, _, cl, hb⟩, sa, ex, ty, kc⟩
section
variable {K : PySem.W.Frag} {x : Str} {st : Stmt} {f c : Addr} {h : Heap} {mg : Str → Option Value} {ps : List Str}
theorem DnK.at_ (D : DnK K x st f c) (X : K.In h) (G : h.Ns mainGlobals mg) : mg x = some (.ref f) := by
  obtain ⟨oc, od, kV, doc, pm, an, ct, osl, a, l, cd, k⟩ := D.ex
  exact PySem.W.mg_of X G a
theorem DnK.dn (D : DnK K x st f c) (X : K.In h) (G : h.Ns mainGlobals mg)
    (hb : ∀ (kV doc pm : Value) (an : Option Addr) (cdv ct : Value) (us : List Value), us.length = ps.length → bindArgs (PySem.W.fnOf x x (defArgs st) (defBody st) (defScope st) .none kV doc pm an cdv ct) ⟨us, []⟩ = pure (ps.zip us)) : Dn K mg x st ps := by
  obtain ⟨oc, od, kV, doc, pm, an, ct, osl, a, l, cd, k⟩ := D.ex
  exact ⟨f, _, L2.fun_mk l cd k, PySem.W.mg_of X G a, .all (hb kV doc pm an (.ref c) ct)⟩
end
end LB
namespace LamX
open PySem PySem.Spec PyProof.Rows L2
/-- walk_ofTs, where the head tells of names left loose, too -/
theorem walk_ofTsX {l : PySem.W.OpenLaw} {n k : Nat} {q : Program} {loose : List Str} {XP : (Str → Option Value) → Heap → Prop} {YP : World → Heap → Prop} {d : DefRec} {K : Params → PySem.W.Frag} {CX : World → CXT} {x : Str}
    (hn : l.most = some n) (hn2 : n ≤ sizeLine) (hdf : d.params.defaults = []) (hr : Room k callerA) (hY : ∀ (w : World) (h : Heap), YP w h → (K w.params).In h)
    (F : ∀ (w : World) (mg : Str → Option Value) (fa : Addr) (h : Heap), YP w h → (K w.params).In h → h.Ns mainGlobals mg → XP mg h → mg d.name = some (.ref fa) → LawAtS l w (K w.params) (CX w) k n x mg fa h)
    (hCX : ∀ (w : World) (H : Hp) (s : Shared) (e : Value) (s' : Shared), CX w [] H s (fun _ _ _ => False) e s' → False) :
    PySem.W.WalkO q loose XP YP l.row.toRowW d [] (fun f vs => PySem.call f vs) := by
  refine Att.attach_callB hn hdf fun w s₀ s₁ mg mb fa o pm cd doc a vs ns G Y ho hd hcd hmg hobj hints hlen hbits hg => ?_
  have KX := hY w _ Y
  obtain ⟨fd, cs, sp, hT, nT, C, hb, hsp, hF⟩ := F w mg fa _ Y KX G.T.g G.X hmg
  exact law_callTs KX G.T.g G.T.b G.T.builtins G.T.nolimit hg hT nT C G.T.bmain hobj hints (Nat.le_trans hlen hn2) hr hF hb (fun H hH hS => hsp H a ns hlen hbits hH hS) fun H e s' => hCX w H s₁ e s'
end LamX
end
section
set_option Elab.async false
set_option linter.all false
set_option maxRecDepth 100000
set_option maxHeartbeats 4000000
namespace K25
open PySem PySem.Spec PyProof.Rows L2 LB LamX
theorem all_mk {l : PySem.W.OpenLaw} {w : World} {K : PySem.W.Frag} {h : Heap} {mg : Str → Option Value} {fa : Addr} (X : K.In h) (G : h.Ns mainGlobals mg) (hfa : mg "law" = some (.ref fa)) (hM : ∃ u, mg "MOST_SETS" = some u ∧ RelV (.int 1000000) u)
    {f_whole c_whole f_asked_many c_asked_many f_choose c_choose f_top_of c_top_of f_cascade_of c_cascade_of f_shadow_in c_shadow_in f_cascade c_cascade f_shadow c_shadow f_law_pool c_law_pool f_law_take c_law_take f_law_one c_law_one f_law_lots_of c_law_lots_of f_law_odd_whole c_law_odd_whole f_law_is_whole c_law_is_whole f_law_like c_law_like f_law_ca_said c_law_ca_said f_law_ca_choose c_law_ca_choose f_law_ca_is_cascade c_law_ca_is_cascade f_law_ca_right c_law_ca_right f_law_ca_sets c_law_ca_sets f_law_ca_below c_law_ca_below f_law_ca_lots_right c_law_ca_lots_right f_law_ca_ones c_law_ca_ones f_law_ca_drawn_right c_law_ca_drawn_right f_law c_law : Addr}
    (d_whole : DnK K "whole" s_whole f_whole c_whole)
    (d_asked_many : DnK K "asked_many" s_asked_many f_asked_many c_asked_many)
    (d_choose : DnK K "choose" s_choose f_choose c_choose)
    (d_top_of : DnK K "top_of" s_top_of f_top_of c_top_of)
    (d_cascade_of : DnK K "cascade_of" s_cascade_of f_cascade_of c_cascade_of)
    (d_shadow_in : DnK K "shadow_in" s_shadow_in f_shadow_in c_shadow_in)
    (d_cascade : DnK K "cascade" s_cascade f_cascade c_cascade)
    (d_shadow : DnK K "shadow" s_shadow f_shadow c_shadow)
    (d_law_pool : DnK K "_law_pool" s_law_pool f_law_pool c_law_pool)
    (d_law_take : DnK K "_law_take" s_law_take f_law_take c_law_take)
    (d_law_one : DnK K "_law_one" s_law_one f_law_one c_law_one)
    (d_law_lots_of : DnK K "_law_lots_of" s_law_lots_of f_law_lots_of c_law_lots_of)
    (d_law_odd_whole : DnK K "_law_odd_whole" s_law_odd_whole f_law_odd_whole c_law_odd_whole)
    (d_law_is_whole : DnK K "_law_is_whole" s_law_is_whole f_law_is_whole c_law_is_whole)
    (d_law_like : DnK K "_law_like" s_law_like f_law_like c_law_like)
    (d_law_ca_said : DnK K "_law_ca_said" s_law_ca_said f_law_ca_said c_law_ca_said)
    (d_law_ca_choose : DnK K "_law_ca_choose" s_law_ca_choose f_law_ca_choose c_law_ca_choose)
    (d_law_ca_is_cascade : DnK K "_law_ca_is_cascade" s_law_ca_is_cascade f_law_ca_is_cascade c_law_ca_is_cascade)
    (d_law_ca_right : DnK K "_law_ca_right" s_law_ca_right f_law_ca_right c_law_ca_right)
    (d_law_ca_sets : DnK K "_law_ca_sets" s_law_ca_sets f_law_ca_sets c_law_ca_sets)
    (d_law_ca_below : DnK K "_law_ca_below" s_law_ca_below f_law_ca_below c_law_ca_below)
    (d_law_ca_lots_right : DnK K "_law_ca_lots_right" s_law_ca_lots_right f_law_ca_lots_right c_law_ca_lots_right)
    (d_law_ca_ones : DnK K "_law_ca_ones" s_law_ca_ones f_law_ca_ones c_law_ca_ones)
    (d_law_ca_drawn_right : DnK K "_law_ca_drawn_right" s_law_ca_drawn_right f_law_ca_drawn_right c_law_ca_drawn_right)
    (d_law : DnK K "law" s_law f_law c_law)
    {P1 P2 : Addr} (hd1 : PySem.W.codeHdIn K c_law P1 = true) (hd2 : PySem.W.codeHdIn K c_law_ca_sets P2 = true) (n1 : K.lookup P1 = none) (n2 : K.lookup P2 = none) (t1 : h.get? P1 = some { cls := .none, data := .fields #[] }) (t2 : h.get? P2 = some { cls := .none, data := .fields #[] }) (np : P1 ≠ P2)
    (b_range : PySem.W.nsIn K mainGlobals "range" = some none) (b_len : PySem.W.nsIn K mainGlobals "len" = some none) (b_int : PySem.W.nsIn K mainGlobals "int" = some none) (b_bool : PySem.W.nsIn K mainGlobals "bool" = some none) (b_str : PySem.W.nsIn K mainGlobals "str" = some none) (b_dict : PySem.W.nsIn K mainGlobals "dict" = some none) (b_tuple : PySem.W.nsIn K mainGlobals "tuple" = some none) (b_list : PySem.W.nsIn K mainGlobals "list" = some none) (b_isinstance : PySem.W.nsIn K mainGlobals "isinstance" = some none) (b_sum : PySem.W.nsIn K mainGlobals "sum" = some none) (b_max : PySem.W.nsIn K mainGlobals "max" = some none) (b_min : PySem.W.nsIn K mainGlobals "min" = some none) (b_sorted : PySem.W.nsIn K mainGlobals "sorted" = some none) (b_ValueError : PySem.W.nsIn K mainGlobals "ValueError" = some none)
    {tk : Tok} (m7 : PySem.W.nsIn K mainGlobals "MOST_SIZE" = some (some (.int 7 tk)))
    {CR CB fI : Addr} (aR : PySem.W.nsIn K mainGlobals "Refused" = some (some (.ref CR))) (aB : PySem.W.nsIn K mainGlobals "BadMany" = some (some (.ref CB))) (ox : OexC K CB) (iC : PySem.W.findIn K (.ref CB) "__init__" = some (some (.ref fI))) (no : PySem.W.findIn K (.ref CB) "what" = some none) (xf : XfC K CB) (ec : ExcC K CB)
    (em : PySem.W.exmOne K (.ref CB) (.ref CR) = some true) (ki : PySem.W.kitOne K (.ref CB) (.ref CB) = some true) (tI : PySem.W.typeIn K (.ref fI) = some (.type "function")) (ve : PySem.W.findCls K (.type "ValueError") (.type "type") "__init__" = some (.val (.builtin "ValueError.__init__")))
    {oI : Value} {oJ : Option Addr} {kI dI pI : Value} {aI : Option Addr} {cI uI : Value} {sI : Array (Option Value)} (lI : K.lookup fI = some ⟨oI, oJ, .func (PySem.W.fnOf "__init__" "Refused.__init__" (defArgs s_init) (defBody s_init) (defScope s_init) .none kI dI pI aI cI uI), sI⟩) (cdI : PySem.W.codeIn K cI "Refused.__init__" = true) (kpI : PySem.W.keepIn K (.ref fI) = true) :
    LawAtS l w K L2.CX0 8 63 "script" mg fa h := by
  have hfa' := d_law.at_ X G
  rw [hfa] at hfa'
  cases hfa'
  have D_whole : Dn K mg "whole" s_whole ["thing", "low", "high"] := d_whole.dn X G (fun _ _ _ _ _ _ us hl => match us, hl with | [_, _, _], _ => rfl)
  have D_asked_many : Dn K mg "asked_many" s_asked_many ["thing", "low", "high"] := d_asked_many.dn X G (fun _ _ _ _ _ _ us hl => match us, hl with | [_, _, _], _ => rfl)
  have D_choose : Dn K mg "choose" s_choose ["a", "i"] := d_choose.dn X G (fun _ _ _ _ _ _ us hl => match us, hl with | [_, _], _ => rfl)
  have D_top_of : Dn K mg "top_of" s_top_of ["i", "n"] := d_top_of.dn X G (fun _ _ _ _ _ _ us hl => match us, hl with | [_, _], _ => rfl)
  have D_cascade_of : Dn K mg "cascade_of" s_cascade_of ["k", "n"] := d_cascade_of.dn X G (fun _ _ _ _ _ _ us hl => match us, hl with | [_, _], _ => rfl)
  have D_shadow_in : Dn K mg "shadow_in" s_shadow_in ["k", "n"] := d_shadow_in.dn X G (fun _ _ _ _ _ _ us hl => match us, hl with | [_, _], _ => rfl)
  have D_cascade : Dn K mg "cascade" s_cascade ["k", "n"] := d_cascade.dn X G (fun _ _ _ _ _ _ us hl => match us, hl with | [_, _], _ => rfl)
  have D_shadow : Dn K mg "shadow" s_shadow ["k", "n"] := d_shadow.dn X G (fun _ _ _ _ _ _ us hl => match us, hl with | [_, _], _ => rfl)
  have D_law_pool : Dn K mg "_law_pool" s_law_pool ["script", "k"] := d_law_pool.dn X G (fun _ _ _ _ _ _ us hl => match us, hl with | [_, _], _ => rfl)
  have D_law_take : Dn K mg "_law_take" s_law_take ["jar", "top"] := d_law_take.dn X G (fun _ _ _ _ _ _ us hl => match us, hl with | [_, _], _ => rfl)
  have D_law_one : Dn K mg "_law_one" s_law_one ["jar", "things"] := d_law_one.dn X G (fun _ _ _ _ _ _ us hl => match us, hl with | [_, _], _ => rfl)
  have D_law_lots_of : Dn K mg "_law_lots_of" s_law_lots_of ["some"] := d_law_lots_of.dn X G (fun _ _ _ _ _ _ us hl => match us, hl with | [_], _ => rfl)
  have D_law_odd_whole : Dn K mg "_law_odd_whole" s_law_odd_whole ["jar", "low", "high"] := d_law_odd_whole.dn X G (fun _ _ _ _ _ _ us hl => match us, hl with | [_, _, _], _ => rfl)
  have D_law_is_whole : Dn K mg "_law_is_whole" s_law_is_whole ["thing"] := d_law_is_whole.dn X G (fun _ _ _ _ _ _ us hl => match us, hl with | [_], _ => rfl)
  have D_law_like : Dn K mg "_law_like" s_law_like ["told", "owed"] := d_law_like.dn X G (fun _ _ _ _ _ _ us hl => match us, hl with | [_, _], _ => rfl)
  have D_law_ca_choose : Dn K mg "_law_ca_choose" s_law_ca_choose ["a", "i"] := d_law_ca_choose.dn X G (fun _ _ _ _ _ _ us hl => match us, hl with | [_, _], _ => rfl)
  have D_law_ca_is_cascade : Dn K mg "_law_ca_is_cascade" s_law_ca_is_cascade ["k", "n", "thing"] := d_law_ca_is_cascade.dn X G (fun _ _ _ _ _ _ us hl => match us, hl with | [_, _, _], _ => rfl)
  have D_law_ca_right : Dn K mg "_law_ca_right" s_law_ca_right ["k", "n"] := d_law_ca_right.dn X G (fun _ _ _ _ _ _ us hl => match us, hl with | [_, _], _ => rfl)
  have D_law_ca_below : Dn K mg "_law_ca_below" s_law_ca_below ["lot"] := d_law_ca_below.dn X G (fun _ _ _ _ _ _ us hl => match us, hl with | [_], _ => rfl)
  have D_law_ca_lots_right : Dn K mg "_law_ca_lots_right" s_law_ca_lots_right ["k", "many"] := d_law_ca_lots_right.dn X G (fun _ _ _ _ _ _ us hl => match us, hl with | [_, _], _ => rfl)
  have D_law_ca_ones : Dn K mg "_law_ca_ones" s_law_ca_ones ["mask"] := d_law_ca_ones.dn X G (fun _ _ _ _ _ _ us hl => match us, hl with | [_], _ => rfl)
  have D_law_ca_drawn_right : Dn K mg "_law_ca_drawn_right" s_law_ca_drawn_right ["jar"] := d_law_ca_drawn_right.dn X G (fun _ _ _ _ _ _ us hl => match us, hl with | [_], _ => rfl)
  have D_law_ca_said : DnL K mg "_law_ca_said" s_law_ca_said ["asked"] c_law_ca_said := by
    obtain ⟨oc, od, kV, doc, pm, an, ct, osl, a, lk, cd, kk⟩ := d_law_ca_said.ex
    exact ⟨⟨_, oc, od, .none, kV, doc, pm, an, ct, osl, lk, cd, kk, PySem.W.mg_of X G a, .all (fun us hl => match us, hl with | [_], _ => rfl)⟩⟩
  have D_law_ca_sets : DnL K mg "_law_ca_sets" s_law_ca_sets ["k", "many"] c_law_ca_sets := by
    obtain ⟨oc, od, kV, doc, pm, an, ct, osl, a, lk, cd, kk⟩ := d_law_ca_sets.ex
    exact ⟨⟨_, oc, od, .none, kV, doc, pm, an, ct, osl, lk, cd, kk, PySem.W.mg_of X G a, .all (fun us hl => match us, hl with | [_, _], _ => rfl)⟩⟩
  have T : Bt mg := ⟨PySem.W.mg_none_of X G b_range, PySem.W.mg_none_of X G b_len, PySem.W.mg_none_of X G b_int, PySem.W.mg_none_of X G b_bool, PySem.W.mg_none_of X G b_str, PySem.W.mg_none_of X G b_dict, PySem.W.mg_none_of X G b_tuple, PySem.W.mg_none_of X G b_list, PySem.W.mg_none_of X G b_isinstance, PySem.W.mg_none_of X G b_sum, PySem.W.mg_none_of X G b_max, PySem.W.mg_none_of X G b_min, PySem.W.mg_none_of X G b_sorted, ⟨_, PySem.W.mg_of X G m7, ⟨_, rfl⟩⟩, hM⟩
  have XB : XCl K mg "BadMany" CB fI := ⟨PySem.W.mg_of X G aB, ox, iC, no⟩
  have RI : RefI K mg s_init fI := ⟨⟨_, L2.fun_mk lI cdI kpI, .all (fun us hl => match us, hl with | [_, _], _ => rfl)⟩, tI, PySem.W.mg_none_of X G b_ValueError, ve⟩
  have R2 : Ref2 K mg CR CB := ⟨PySem.W.mg_of X G aR, PySem.W.mg_of X G aB, em, ec, xf, no, ki⟩
  obtain ⟨oc, od, kV, doc, pm, an, ct, osl, a, lkL, cdL, kkL⟩ := d_law.ex
  refine ⟨_, [(c_law, P1), (c_law_ca_sets, P2)], spLaw K [(P1, qLaw), (P2, "_law_ca_sets.<locals>.<lambda>")], ?_, ?_, ?_, ?_, ?_, fun base hB hN hTB => ok_law (f1 := f_cascade) (f2 := f_shadow) lkL cdL D_law_ca_said T (hTB (c_law, P1) (by simp)) (by simp) ?_ R2 ?_ ?_ ?_ ?_ ?_ ?_ ?_ ?_ (d_cascade.at_ X G) (d_shadow.at_ X G)⟩
  · intro p hp
    rcases List.mem_cons.mp hp with e | hp
    · rw [e]; exact t1
    · rw [List.mem_singleton.mp hp]; exact t2
  · intro p hp
    rcases List.mem_cons.mp hp with e | hp
    · rw [e]; exact n1
    · rw [List.mem_singleton.mp hp]; exact n2
  · intro p hp
    rcases List.mem_cons.mp hp with e | hp
    · rw [e]; exact PySem.W.codeHd_of_K X hd1
    · rw [List.mem_singleton.mp hp]; exact PySem.W.codeHd_of_K X hd2
  · exact fun s u => .of_eq rfl
  · intro H a ns hl hb hH hS
    refine ⟨a, ns, rfl, hS, hl, fun p hp => ?_, fun _ => rfl⟩
    rcases List.mem_cons.mp hp with e | hp
    · rw [e]; exact TabS.nil (hH (c_law, P1) (by simp))
    · rw [List.mem_singleton.mp hp]; exact TabS.nil (hH (c_law_ca_sets, P2) (by simp))
  · intro p hp e
    rcases List.mem_cons.mp hp with e1 | hp
    · rw [e1]
    · rw [List.mem_singleton.mp hp] at e
      exact absurd e.symm np
  all_goals
    have iI := ok_init (P := l.prog) (w := w) (base := base) RI
    have C_choose := ok_choose (P := l.prog) (w := w) (base := base) D_choose T
    have C_top := ok_top_of D_top_of T C_choose
    have C_casc := ok_cascade_of D_cascade_of T C_choose C_top
    have C_shin := ok_shadow_in D_shadow_in T C_choose C_casc
    have C_whole := ok_whole (P := l.prog) (w := w) (base := base) D_whole T
    have C_asked := ok_asked_many D_asked_many XB iI C_whole
    have C_cascade := ok_cascade D_cascade T C_asked C_casc
    have C_shadow := ok_shadow D_shadow T C_asked C_shin
    have C_take := ok_take (P := l.prog) (w := w) (K := K) (base := base) D_law_take T
    have C_pool := ok_pool (P := l.prog) (w := w) (K := K) (base := base) D_law_pool T
    have C_one := ok_one D_law_one T C_take
    have C_lots := ok_lots_of (P := l.prog) (w := w) (K := K) (base := base) D_law_lots_of T
    have C_odd := ok_odd_whole D_law_odd_whole C_one
    have C_isw := ok_is_whole (P := l.prog) (w := w) (K := K) (base := base) D_law_is_whole T
    have C_like := ok_like D_law_like T C_isw
    have C_cac := ok_ca_choose (P := l.prog) (w := w) (K := K) (base := base) D_law_ca_choose T
    have C_isc := ok_ca_is_cascade D_law_ca_is_cascade T C_isw C_cac
    have C_right := ok_ca_right D_law_ca_right T C_cascade C_shadow C_isc (C_like 1) C_cac
    have C_drawn := ok_ca_drawn_right D_law_ca_drawn_right T C_shadow C_take C_one C_cac C_right
    have C_ones := ok_ca_ones (P := l.prog) (w := w) (K := K) (base := base) D_law_ca_ones
    have C_below := ok_ca_below (P := l.prog) (w := w) (K := K) (base := base) D_law_ca_below T
    have C_sets := ok_ca_sets (TT := [(P1, qLaw), (P2, "_law_ca_sets.<locals>.<lambda>")]) D_law_ca_sets T (hTB (c_law_ca_sets, P2) (by simp)) (by simp) (fun p hp e => by
      rcases List.mem_cons.mp hp with e1 | hp
      · rw [e1] at e
        exact absurd e np
      · rw [List.mem_singleton.mp hp]) C_lots
    have C_lotsR := ok_ca_lots_right D_law_ca_lots_right T C_sets C_below C_ones C_shadow (C_like 1) C_right
  · exact C_pool
  · exact C_drawn
  · exact C_one
  · exact C_lotsR
  · exact C_odd
  · exact C_like 4
  · exact C_cascade
  · exact C_shadow
end K25
end
section
set_option Elab.async false
open PySem PySem.W PyProof.Rows
set_option maxRecDepth 100000 in
set_option maxHeartbeats 0 in
theorem PySem.Challenge.cw_bornandshut_k25_cascades_and_least_shado_holds : PySem.Challenge.rw_bornandshut_k25_cascades_and_least_shado.Holds := by
  w_on; o_law; k_head; (case hw => w_witness2)
  k_fill
  refine LamX.walk_ofTsX (l := PySem.Challenge.rw_bornandshut_k25_cascades_and_least_shado) (n := 63) (k := 8) (x := "script") (CX := fun _ => L2.CX0) rfl (by decide) rfl ⟨rfl, by decide, by decide⟩ (fun w h Y => PySem.W.km_in_of Y) ?F (fun _ _ _ _ _ z => z)
  case F =>
    intro w mg fa h Y KX G GX hmg
    refine' K25.all_mk (P1 := 200) (P2 := 171) KX G hmg ?hM ?d_whole ?d_asked_many ?d_choose ?d_top_of ?d_cascade_of ?d_shadow_in ?d_cascade ?d_shadow ?d_law_pool ?d_law_take ?d_law_one ?d_law_lots_of ?d_law_odd_whole ?d_law_is_whole ?d_law_like ?d_law_ca_said ?d_law_ca_choose ?d_law_ca_is_cascade ?d_law_ca_right ?d_law_ca_sets ?d_law_ca_below ?d_law_ca_lots_right ?d_law_ca_ones ?d_law_ca_drawn_right ?d_law ?hd1 ?hd2 ?n1 ?n2 ?t1 ?t2 ?np ?b_range ?b_len ?b_int ?b_bool ?b_str ?b_dict ?b_tuple ?b_list ?b_isinstance ?b_sum ?b_max ?b_min ?b_sorted ?b_ValueError ?m7 ?aR ?aB ?ox ?iC ?no ?xf ?ec ?em ?ki ?tI ?ve ?lI ?cdI ?kpI
    (case hM =>
      obtain ⟨v, h1, h2⟩ := GX.2.val ("MOST_SETS", WData.int 1000000) (by simp)
      refine ⟨v, h1, ?_⟩
      have h3 : ReadsLit h v (WData.int 1000000) [] := h2
      cases h3
      exact ⟨_, rfl⟩)
    (case d_whole => refine' LB.dnK_mk ?a ?l ?c ?k; (case a => k_is); (case l => k_is); (case c => k_is); (case k => k_is))
    (case d_asked_many => refine' LB.dnK_mk ?a ?l ?c ?k; (case a => k_is); (case l => k_is); (case c => k_is); (case k => k_is))
    (case d_choose => refine' LB.dnK_mk ?a ?l ?c ?k; (case a => k_is); (case l => k_is); (case c => k_is); (case k => k_is))
    (case d_top_of => refine' LB.dnK_mk ?a ?l ?c ?k; (case a => k_is); (case l => k_is); (case c => k_is); (case k => k_is))
    (case d_cascade_of => refine' LB.dnK_mk ?a ?l ?c ?k; (case a => k_is); (case l => k_is); (case c => k_is); (case k => k_is))
    (case d_shadow_in => refine' LB.dnK_mk ?a ?l ?c ?k; (case a => k_is); (case l => k_is); (case c => k_is); (case k => k_is))
    (case d_cascade => refine' LB.dnK_mk ?a ?l ?c ?k; (case a => k_is); (case l => k_is); (case c => k_is); (case k => k_is))
    (case d_shadow => refine' LB.dnK_mk ?a ?l ?c ?k; (case a => k_is); (case l => k_is); (case c => k_is); (case k => k_is))
    (case d_law_pool => refine' LB.dnK_mk ?a ?l ?c ?k; (case a => k_is); (case l => k_is); (case c => k_is); (case k => k_is))
    (case d_law_take => refine' LB.dnK_mk ?a ?l ?c ?k; (case a => k_is); (case l => k_is); (case c => k_is); (case k => k_is))
    (case d_law_one => refine' LB.dnK_mk ?a ?l ?c ?k; (case a => k_is); (case l => k_is); (case c => k_is); (case k => k_is))
    (case d_law_lots_of => refine' LB.dnK_mk ?a ?l ?c ?k; (case a => k_is); (case l => k_is); (case c => k_is); (case k => k_is))
    (case d_law_odd_whole => refine' LB.dnK_mk ?a ?l ?c ?k; (case a => k_is); (case l => k_is); (case c => k_is); (case k => k_is))
    (case d_law_is_whole => refine' LB.dnK_mk ?a ?l ?c ?k; (case a => k_is); (case l => k_is); (case c => k_is); (case k => k_is))
    (case d_law_like => refine' LB.dnK_mk ?a ?l ?c ?k; (case a => k_is); (case l => k_is); (case c => k_is); (case k => k_is))
    (case d_law_ca_said => refine' LB.dnK_mk ?a ?l ?c ?k; (case a => k_is); (case l => k_is); (case c => k_is); (case k => k_is))
    (case d_law_ca_choose => refine' LB.dnK_mk ?a ?l ?c ?k; (case a => k_is); (case l => k_is); (case c => k_is); (case k => k_is))
    (case d_law_ca_is_cascade => refine' LB.dnK_mk ?a ?l ?c ?k; (case a => k_is); (case l => k_is); (case c => k_is); (case k => k_is))
    (case d_law_ca_right => refine' LB.dnK_mk ?a ?l ?c ?k; (case a => k_is); (case l => k_is); (case c => k_is); (case k => k_is))
    (case d_law_ca_sets => refine' LB.dnK_mk ?a ?l ?c ?k; (case a => k_is); (case l => k_is); (case c => k_is); (case k => k_is))
    (case d_law_ca_below => refine' LB.dnK_mk ?a ?l ?c ?k; (case a => k_is); (case l => k_is); (case c => k_is); (case k => k_is))
    (case d_law_ca_lots_right => refine' LB.dnK_mk ?a ?l ?c ?k; (case a => k_is); (case l => k_is); (case c => k_is); (case k => k_is))
    (case d_law_ca_ones => refine' LB.dnK_mk ?a ?l ?c ?k; (case a => k_is); (case l => k_is); (case c => k_is); (case k => k_is))
    (case d_law_ca_drawn_right => refine' LB.dnK_mk ?a ?l ?c ?k; (case a => k_is); (case l => k_is); (case c => k_is); (case k => k_is))
    (case d_law => refine' LB.dnK_mk ?a ?l ?c ?k; (case a => k_is); (case l => k_is); (case c => k_is); (case k => k_is))
    (case hd1 => kernel_rfl)
    (case hd2 => kernel_rfl)
    (case n1 => kernel_rfl)
    (case n2 => kernel_rfl)
    (case t1 => exact PySem.W.km_tabs_of Y 200 (by decide))
    (case t2 => exact PySem.W.km_tabs_of Y 171 (by decide))
    (case np => decide)
    (case b_range => k_is)
    (case b_len => k_is)
    (case b_int => k_is)
    (case b_bool => k_is)
    (case b_str => k_is)
    (case b_dict => k_is)
    (case b_tuple => k_is)
    (case b_list => k_is)
    (case b_isinstance => k_is)
    (case b_sum => k_is)
    (case b_max => k_is)
    (case b_min => k_is)
    (case b_sorted => k_is)
    (case b_ValueError => k_is)
    (case m7 => k_is)
    (case aR => k_is)
    (case aB => k_is)
    (case ox => refine' LB.oex_mk ?cl ?bm ?sa ?ex ?ty ?kc; (case cl => k_is); (case bm => decide +kernel); (case sa => k_is); (case ex => k_is); (case ty => k_is); (case kc => k_is))
    (case iC => k_is)
    (case no => k_is)
    (case xf => refine' ⟨?q1, ?q2, ?q3, ?q4⟩; (case q1 => k_is); (case q2 => k_is); (case q3 => k_is); (case q4 => k_is))
    (case ec => refine' ⟨?q1, ?q2, ?q3, ?q4, ?q5, ?q6, ?q7, ?q8⟩; (case q1 => k_is); (case q2 => k_is); (case q3 => k_is); (case q4 => k_is); (case q5 => k_is); (case q6 => k_is); (case q7 => k_is); (case q8 => k_is))
    (case em => refine' PySem.W.exm_ref ?q1 ?q2 ?q3 ?q4; (case q1 => k_is); (case q2 => k_is); (case q3 => k_is); (case q4 => k_is))
    (case ki => exact if_pos (beq_self_eq_true _))
    (case tI => k_is)
    (case ve => k_is)
    (case lI => k_is)
    (case cdI => k_is)
    (case kpI => k_is)
#print axioms PySem.Challenge.cw_bornandshut_k25_cascades_and_least_shado_holds
end
