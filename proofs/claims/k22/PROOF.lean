import PyProof.Rows.All
import Wide.All
import OpenK.AllK
import Wide.FinOn
import PyProof.EqAt
import PyProof.EqKinds
import PyProof.TupleCall
import HandS.ForMost
import HandS.ForExc
import HandS.Evl
import HandS.Flow
import HandS.Codes
import HandS.IsInst
import HandS.ExcInit
import HandS.ExcField
import HandS.ExcIs
import HandS.TupLe
import HandS.TupAny
import HandS.Lambda
import HandS.EndTab
import HandS.ExcCtx
import HandS.DictTup
import HandS.SetKeys
import HandS.Wide
import KE.KExcIs
import KE.SortKeyHeap
import KE.KRevSl
import KE.KDictKeyed
import KE.KDictCopyH
import HandS.TupLen
import HandS.Style
import HandS.EndBits
import PyProof.Draws
import PyProof.EnumMake
import PyProof.TupleIter
import HandS.Walk
import HandS.Iter
import KE.SortData
import KE.DataEq
import HandS.HotCalls
import HandS.Text
import HandS.TupMul
import PySem.Challenge.RW_bornandshut_k22_bars_made_counted_near
section
set_option Elab.async false
set_option linter.all false
set_option maxRecDepth 100000
set_option maxHeartbeats 4000000
/-! what stands under every law here: calls of defs by their promises -/
namespace LB
open PySem PySem.Spec PyProof.Rows L2
/-- a def of the text, under its name -/
structure Dn (K : PySem.W.Frag) (mg : Str → Option Value) (x : Str) (st : Stmt) (ps : List Str) : Prop where
  ex : ∃ (f : Addr) (fd : FuncData), L2.Fun K x x st f fd ∧ mg x = some (.ref f) ∧ L2.Binds K fd ps []
/-- a def that may be called by its name; it lets no exception out -/
structure Cal (P : Program) (w : World) (K : PySem.W.Frag) (mg : Str → Option Value) (base : Heap) (k : Nat) (x : Str) (sp : Sp) : Prop where
  ex : ∃ (f : Addr) (fd : FuncData) (ps : List Str), FnOk P w K mg base CX0 k f fd ps sp ∧ mg x = some (.ref f) ∧ PySem.W.keepIn K (.ref f) = true ∧ Binds K fd ps []
/-- .. it may let one out -/
structure CalX (P : Program) (w : World) (K : PySem.W.Frag) (mg : Str → Option Value) (base : Heap) (k : Nat) (x : Str) (sp : Sp) : Prop where
  ex : ∃ (f : Addr) (fd : FuncData) (ps : List Str), FnOk P w K mg base (L2N.CX P w) k f fd ps sp ∧ mg x = some (.ref f) ∧ PySem.W.keepIn K (.ref f) = true ∧ Binds K fd ps []
section
variable {P : Program} {w : World} {K : PySem.W.Frag} {mg : Str → Option Value} {base : Heap}
theorem cal_of {x : Str} {st : Stmt} {N ps : List Str} {k : Nat} {sp : Sp} (D : Dn K mg x st ps) (S : FnScope N ps (defScope st)) (len : ∀ vs H Q E, sp vs H Q E → vs.length = ps.length)
    (hbody : ∀ (f : Addr) (cdv : Value) (A : Around) (outer : List Env) (s : Shared) (H : Hp) (vs : List V) (Q : VK) (E : XK), Room k (A.deeper (envOfC x (defScope st) s.heap.objs.size f cdv)) → sp vs H Q E →
      ∃ t, PSs (cxOf CX0 P w K mg base N x (defScope st) f cdv A outer s H E).nox (defBody st) t ∧ t { nx := fun _ H' => Q .non H', rt := Q } (start N vs) H) : Cal P w K mg base (k + 1) x sp := by
  obtain ⟨f, fd, F, hm, b⟩ := D.ex
  exact ⟨f, fd, ps, F.ok S len (hbody f), hm, F.kp, b⟩
/-- as Fun.okX, the context of what is let out kept None -/
theorem okXN {x qual : Str} {st : Stmt} {f : Addr} {fd : FuncData} {N ps : List Str} {k : Nat} {sp : Sp} (F : L2.Fun K x qual st f fd) (S : FnScope N ps (defScope st)) (len : ∀ vs H Q E, sp vs H Q E → vs.length = ps.length)
    (hbody : ∀ (cdv : Value) (A : Around) (outer : List Env) (s : Shared) (H : Hp) (vs : List V) (Q : VK) (E : XK), Room k (A.deeper (envOfC qual (defScope st) s.heap.objs.size f cdv)) → sp vs H Q E →
      ∃ t, PSs (cxOf (L2N.CX P w) P w K mg base N qual (defScope st) f cdv A outer s H E) (defBody st) t ∧ t { nx := fun _ H' => Q .non H', rt := Q } (start N vs) H) : FnOk P w K mg base (L2N.CX P w) (k + 1) f fd ps sp := by
  obtain ⟨oc, od, kV, doc, pm, an, cdv, ct, osl, rfl, lk, hcd⟩ := F.ex
  exact fn_of lk hcd S len fun A outer s H vs Q E hr hsp => hbody cdv A outer s H vs Q E hr hsp
theorem passLN {X : Cx} : Passes (L2N.CX X.prog X.w) X E0 := fun _ _ _ _ _ _ _ h => by
  obtain ⟨_, _, _, _, _, _, _, _, _, _, _, _, z⟩ := h
  exact z.elim
theorem takes0N {X : Cx} : L2N.Takes X (fun _ _ _ _ => False) := fun _ _ x => by
  obtain ⟨_, _, _, _, _, _, _, _, _, _, _, _, _, _, _, _, z⟩ := x
  exact z.elim
theorem calx_of {x : Str} {st : Stmt} {N ps : List Str} {k : Nat} {sp : Sp} (D : Dn K mg x st ps) (S : FnScope N ps (defScope st)) (len : ∀ vs H Q E, sp vs H Q E → vs.length = ps.length)
    (hbody : ∀ (f : Addr) (cdv : Value) (A : Around) (outer : List Env) (s : Shared) (H : Hp) (vs : List V) (Q : VK) (E : XK), Room k (A.deeper (envOfC x (defScope st) s.heap.objs.size f cdv)) → sp vs H Q E →
      ∃ t, PSs (cxOf (L2N.CX P w) P w K mg base N x (defScope st) f cdv A outer s H E) (defBody st) t ∧ t { nx := fun _ H' => Q .non H', rt := Q } (start N vs) H) : CalX P w K mg base (k + 1) x sp := by
  obtain ⟨f, fd, F, hm, b⟩ := D.ex
  exact ⟨f, fd, ps, okXN F S len (hbody f), hm, F.kp, b⟩
end
section
variable {X : Cx} {k j : Nat} {x : Str} {sp : Sp} {p pos : Pos} {e : Expr} {es : List Expr} {t : TA}
theorem pe_c (c : Cal X.prog X.w X.K X.mg X.base k x sp) (hr : Room j X.A) (hk : k ≤ j) (hg : Gl X x) (ha : PA X (e :: es) t)
    (hdb : (x == ("__debug__" : Str)) = false := by decide) (he : starEach (e :: es) X.env = (false, eval e X.env) :: starEach es X.env := by rfl) (hpl : (backTo pos (starEach es X.env)).any (·.1) = false := by rfl) :
    PE X (.Call (.Name x p) (e :: es) [] pos) (tCall sp [] E0 t) := by
  obtain ⟨f, fd, ps, F, hm, kp, b⟩ := c.ex
  exact pe_call F (hr.mono hk) hg hm kp b .nil pass0 ha hdb he hpl
/-- a def that may raise, called where it doesn't -/
theorem pe_cx (c : CalX X.prog X.w X.K X.mg X.base k x sp) (hr : Room j X.A) (hk : k ≤ j) (hg : Gl X x) (ha : PA X (e :: es) t)
    (hdb : (x == ("__debug__" : Str)) = false := by decide) (he : starEach (e :: es) X.env = (false, eval e X.env) :: starEach es X.env := by rfl) (hpl : (backTo pos (starEach es X.env)).any (·.1) = false := by rfl) :
    PE X (.Call (.Name x p) (e :: es) [] pos) (tCall sp [] E0 t) := by
  obtain ⟨f, fd, ps, F, hm, kp, b⟩ := c.ex
  exact pe_call F (hr.mono hk) hg hm kp b .nil passLN ha hdb he hpl
/-- .. called in a def that lets the exception out -/
theorem pe_cE {E : XK} (tk : L2N.Takes X (fun cls d _ H => E cls d H)) (c : CalX X.prog X.w X.K X.mg X.base k x sp) (hr : Room j X.A) (hk : k ≤ j) (hg : Gl X x) (ha : PA X (e :: es) t)
    (hdb : (x == ("__debug__" : Str)) = false := by decide) (he : starEach (e :: es) X.env = (false, eval e X.env) :: starEach es X.env := by rfl) (hpl : (backTo pos (starEach es X.env)).any (·.1) = false := by rfl) :
    PE X (.Call (.Name x p) (e :: es) [] pos) (tCall sp [] E t) := by
  obtain ⟨f, fd, ps, F, hm, kp, b⟩ := c.ex
  exact pe_call F (hr.mono hk) hg hm kp b .nil (L2N.passes_call tk fun _ _ _ _ h => h) ha hdb he hpl
end
section
variable {X : Cx} {pos : Pos}
/-- pg_tup, the written part told (within a comprehension) -/
theorem pg_tupK {K : PySem.W.Frag} {es : List Expr} {k : Nat} {t : TGs} (n : Nat) (hK : X.K = K) (hc : X.calm = true) (h : PGs X es t)
    (hn : (assignEach es X.env).length = n := by rfl) (hst : (assignEach es X.env).findIdx? (·.1) = none := by rfl) : PG X (.Tuple es k pos) (gTup K n t) := by
  rw [← hK]
  exact pg_tup hc h hn hst
end
/-! ### a conditional expression as a test -/
section
variable {X : Cx} {a b c : Expr} {pos : Pos} {tA tu tw : TT}
def tIfT (t u w : TT) : TT := fun σ H Q => t σ H fun c H1 => if c = true then u σ H1 Q else w σ H1 Q
theorem pt_ifExp (hc : PT X c tA) (ha : PT X a tu) (hb : PT X b tw) : PT X (.IfExp c a b pos) (tIfT tA tu tw) := by
  refine ⟨fun pins s σ H Q I h => ?_⟩
  refine PyProof.Rows.isTrue_IfExp (thn (hc.run pins s σ H _ I h) fun d s1 ⟨H1, I1, q1⟩ => ?_)
  cases d with
  | true => exact ha.run pins s1 σ H1 Q I1 q1
  | false => exact hb.run pins s1 σ H1 Q I1 q1
end
/-! ### rules that name the written part, it told (within a comprehension) -/
section
variable {X : Cx} {K : PySem.W.Frag}
theorem ixK_list (hK : X.K = K) : IxR X (rIxL K) := hK ▸ ix_list
theorem ixK_tup (hK : X.K = K) : IxR X (rIxT K) := hK ▸ ix_tup
theorem ixK_seq (hK : X.K = K) : IxR X (rIx K) := hK ▸ ix_seq
theorem slK_list (hK : X.K = K) : SlR X (rSlL K) := hK ▸ sl_list
theorem slK_tup (hK : X.K = K) : SlR X (rSlA K) := hK ▸ sl_tupA
theorem opK_cat (hK : X.K = K) : OpR X (binaryOp .Add) (rCatA K) := hK ▸ op_catA
theorem opK_ltT (hK : X.K = K) (hu : X.A.units < cLine) : OpR X (compareOp .Lt) (rLtT K) := hK ▸ op_ltT hu
theorem opK_eqD (hK : X.K = K) (hu : X.A.units + 64 < cLine) : OpR X (compareOp .Eq) (rEqD K) := hK ▸ op_eqD hu
theorem opK_neD (hK : X.K = K) (hu : X.A.units + 64 < cLine) : OpR X (compareOp .NotEq) (rNeD K) := hK ▸ op_neD hu
theorem opK_in (hK : X.K = K) : OpR X (compareOp .In) (rIn K false) := hK ▸ op_in_seq
theorem opK_notIn (hK : X.K = K) : OpR X (compareOp .NotIn) (rIn K true) := hK ▸ op_notIn_seq
theorem callK_isi (hK : X.K = K) : CallR X (.builtin "isinstance") (rIsi K) := hK ▸ call_isi
def rLenQ (K : PySem.W.Frag) : List V → Hp → VK → Prop := fun xs H Q => ∃ p ys, xs = [.ref p] ∧ (SqL K H p ys ∨ SqT K H p ys) ∧ Q (.int ys.length) H
theorem callK_len (hK : X.K = K) : CallR X (.builtin "len") (rLenQ K) := hK ▸ call_len_seq
theorem crK_sum (hK : X.K = K) (hc : X.calm = true) : CallR X (.builtin "sum") (rSum K) := hK ▸ cr_sum hc
def rTupO (K : PySem.W.Frag) : List V → Hp → VK → Prop := fun xs H Q => ∃ p ys, xs = [.ref p] ∧ ((SqL K H p ys ∧ ∀ l, H l = none → Q (.ref l) (upd H l (.tup ys))) ∨ (SqT K H p ys ∧ Q (.ref p) H))
theorem callK_tup (hK : X.K = K) : CallR X (.type "tuple") (rTupO K) := hK ▸ call_tuple_of
theorem piK_list {tg l : Expr} {tl : TE} (hK : X.K = K) (hl : PE X l tl) : PI X tg l (iList K tl) := hK ▸ pi_list hl
theorem piK_tup {tg l : Expr} {tl : TE} (hK : X.K = K) (hl : PE X l tl) : PI X tg l (iTup K tl) := hK ▸ pi_tup hl
end
/-! ### heaps without what changes -/
section
open Evl
def cut (S : List Addr) (H : Hp) : Hp := fun a => if a ∈ S then none else H a
theorem cut_in {S : List Addr} {H : Hp} {a : Addr} (h : a ∈ S) : cut S H a = none := if_pos h
theorem cut_out {S : List Addr} {H : Hp} {a : Addr} (h : a ∉ S) : cut S H a = H a := if_neg h
theorem cut_some {S : List Addr} {H : Hp} {a : Addr} {o : HO} (h : cut S H a = some o) : a ∉ S ∧ H a = some o := by
  by_cases e : a ∈ S
  · rw [cut_in e] at h; cases h
  · rw [cut_out e] at h; exact ⟨e, h⟩
theorem cut_nil {H : Hp} : cut [] H = H := by
  funext a; exact cut_out (by simp)
theorem ex_cut {S : List Addr} {H : Hp} : Ex (cut S H) H := fun _ _ h => (cut_some h).2
/-- all but S stays -/
def But (S : List Addr) (H H' : Hp) : Prop := ∀ a o, a ∉ S → H a = some o → H' a = some o
theorem But.refl {S : List Addr} {H : Hp} : But S H H := fun _ _ _ h => h
theorem But.trans {S : List Addr} {H H1 H2 : Hp} (a : But S H H1) (b : But S H1 H2) : But S H H2 := fun x o n h => b x o n (a x o n h)
theorem But.of {S : List Addr} {H H' : Hp} (e : Ex H H') : But S H H' := fun a o _ h => e a o h
theorem But.more {S T : List Addr} {H H' : Hp} (b : But S H H') (h : ∀ a ∈ S, a ∈ T) : But T H H' := fun a o n q => b a o (fun z => n (h a z)) q
theorem But.cut {S : List Addr} {H H' : Hp} (b : But S H H') : Ex (cut S H) (cut S H') := fun a o h => by
  obtain ⟨n, q⟩ := cut_some h
  rw [cut_out n]
  exact b a o n q
theorem But.new {S : List Addr} {H : Hp} {p : Addr} {o : HO} (h : H p = none) : But S H (upd H p o) := But.of (Ex.new h)
theorem But.put {S : List Addr} {H : Hp} {p : Addr} {o : HO} (h : p ∈ S) : But S H (upd H p o) := fun a u n q => by
  rw [upd_ne (fun z : a = p => n (by rw [z]; exact h))]
  exact q
/-- what was not tracked ahead may change -/
theorem But.drop {p : Addr} {S : List Addr} {H H' : Hp} (b : But (p :: S) H H') (h : H p = none) : But S H H' := fun a o n q => by
  refine b a o (fun z => ?_) q
  rcases List.mem_cons.mp z with e | e
  · rw [e, h] at q; cases q
  · exact n e
theorem But.ex {S : List Addr} {H H' : Hp} (b : But S H H') (h : ∀ a ∈ S, H a = none) : Ex H H' := fun a o q => b a o (fun z => by rw [h a z] at q; cases q) q
end
/-! ### data -/
section
open Evl
variable {K : PySem.W.Frag}
mutual
theorem dp_ext {H H' : Hp} (e : Ex H H') : ∀ (d : PyData) (v : V), Dp K H v d → Dp K H' v d
  | .none, _, h => by cases h; exact .non
  | .bool b, _, h => by cases h; exact .bl b
  | .int i, _, h => by cases h; exact .int i
  | .str x, _, h => by cases h; exact .str x
  | .list ds, _, h => by
    cases h with
    | lst hs ha => exact .lst (ex_l e hs) (dpAll_ext e ds _ ha)
  | .tuple ds, _, h => by
    cases h with
    | tup hs ha => exact .tup (ex_t e hs) (dpAll_ext e ds _ ha)
  | .dict _, _, h => by cases h
theorem dpAll_ext {H H' : Hp} (e : Ex H H') : ∀ (ds : List PyData) (vs : List V), DpAll K H vs ds → DpAll K H' vs ds
  | [], _, h => by cases h; exact .nil
  | d :: ds, _, h => by
    cases h with
    | cons h1 h2 => exact .cons (dp_ext e d _ h1) (dpAll_ext e ds _ h2)
end
end
end LB
namespace L2
open PySem PySem.Spec PyProof.Rows LB Evl
section
variable {K : PySem.W.Frag}
theorem Dp.up {H H' : Hp} {v : V} {d : PyData} (h : Dp K H v d) (e : Ex H H') : Dp K H' v d := dp_ext e d v h
theorem DpAll.up {H H' : Hp} {vs : List V} {ds : List PyData} (h : DpAll K H vs ds) (e : Ex H H') : DpAll K H' vs ds := dpAll_ext e ds vs h
theorem DpAll.len {H : Hp} : ∀ {vs : List V} {ds : List PyData}, DpAll K H vs ds → vs.length = ds.length
  | _, _, .nil => rfl
  | _, _, .cons _ t => congrArg (· + 1) (DpAll.len t)
theorem DpAll.app {H : Hp} : ∀ {vs ws : List V} {ds es : List PyData}, DpAll K H vs ds → DpAll K H ws es → DpAll K H (vs ++ ws) (ds ++ es)
  | _, _, _, _, .nil, h => h
  | _, _, _, _, .cons a t, h => .cons a (DpAll.app t h)
theorem DpAll.get {H : Hp} : ∀ {vs : List V} {ds : List PyData} {i : Nat} {v : V}, DpAll K H vs ds → vs[i]? = some v → ∃ d, ds[i]? = some d ∧ Dp K H v d
  | _, _, i, _, .nil, e => by simp at e
  | _, _, 0, _, .cons a t, e => by simp at e; subst e; exact ⟨_, rfl, a⟩
  | _, _, i + 1, _, .cons a t, e => by
    obtain ⟨d, h1, h2⟩ := DpAll.get (i := i) t (by simpa using e)
    exact ⟨d, by simpa using h1, h2⟩
theorem DpAll.getD {H : Hp} {vs : List V} {ds : List PyData} {i : Nat} {d : PyData} (h : DpAll K H vs ds) (e : ds[i]? = some d) : ∃ v, vs[i]? = some v ∧ Dp K H v d := by
  have hi : i < ds.length := (List.getElem?_eq_some_iff.mp e).1
  have hv : i < vs.length := by rw [h.len]; exact hi
  obtain ⟨d', h1, h2⟩ := h.get (List.getElem?_eq_getElem hv)
  rw [e] at h1
  cases h1
  exact ⟨_, List.getElem?_eq_getElem hv, h2⟩
end
end L2
namespace LB
open PySem PySem.Spec PyProof.Rows L2
section
variable {K : PySem.W.Frag}
/-- whole numbers as they stand in lists -/
theorem dpAll_ints {H : Hp} : ∀ ns : List Int, DpAll K H (ns.map V.int) (ns.map PyData.int)
  | [] => .nil
  | n :: ns => .cons (.int n) (dpAll_ints ns)
end
section
variable {K : PySem.W.Frag} {H : Hp}
/-- a tuple stands apart from the lists that change -/
theorem sqt_out {S : List Addr} {c : Addr} {xs : List V} (h : SqT K H c xs) (hS : ∀ a ∈ S, ∃ ys, H a = some (.lst ys)) : SqT K (cut S H) c xs := by
  rcases h with (h | ⟨o, h⟩) | h
  · refine Or.inl (Or.inl ?_)
    rw [cut_out (fun m => ?_)]
    · exact h
    · obtain ⟨ys, e⟩ := hS c m
      rw [h] at e
      cases e
  · refine Or.inl (Or.inr ⟨o, ?_⟩)
    rw [cut_out (fun m => ?_)]
    · exact h
    · obtain ⟨ys, e⟩ := hS c m
      rw [h] at e
      cases e
  · exact Or.inr h
end
/-! ### tuples joined, cut -/
section
open Evl
variable {K : PySem.W.Frag} {H : Hp} {Q : VK}
theorem cat_ok {a b : Addr} {xs ys : List V} (S1 : SqT K H a xs) (S2 : SqT K H b ys) (hz : xs.length + ys.length ≤ 100000) (q : ∀ c H', Ex H H' → (∀ p, H' p = none → H p = none) → SqT K H' c (xs ++ ys) → Q (.ref c) H') : rCatA K (.ref a) (.ref b) H Q := by
  refine ⟨a, b, xs, ys, rfl, rfl, S1, S2, sz_of hz, fun e => ?_, fun _ e => ?_, fun _ _ p hp => ?_⟩
  · subst e
    exact q b H (Ex.refl H) (fun _ h => h) S2
  · subst e
    exact q a H (Ex.refl H) (fun _ h => h) (by rw [List.append_nil]; exact S1)
  · exact q p _ (Ex.new hp) (fun x hx => fresh_back (Ex.new hp) hx) (Or.inl (Or.inl upd_same))
theorem cutV_all {xs : List V} {lo hi : Option Int} (h : HT.sIx xs.length 0 lo = 0 ∧ HT.sIx xs.length xs.length hi = xs.length) : cutV xs lo hi = xs := by
  unfold cutV
  rw [h.1, h.2, List.drop_zero, Nat.sub_zero, List.take_length]
theorem sl_ok {a : Addr} {xs : List V} {lo hi : Option Int} (S : SqT K H a xs) (q : ∀ c H', Ex H H' → (∀ p, H' p = none → H p = none) → SqT K H' c (cutV xs lo hi) → Q (.ref c) H') : rSlA K (.ref a) lo hi H Q := by
  refine ⟨a, xs, rfl, S, fun e => ?_, fun _ p hp => ?_⟩
  · exact q a H (Ex.refl H) (fun _ h => h) (by rw [cutV_all e]; exact S)
  · exact q p _ (Ex.new hp) (fun x hx => fresh_back (Ex.new hp) hx) (Or.inl (Or.inl upd_same))
theorem cutV_to {xs : List V} {n : Nat} : cutV xs none (some (n : Int)) = xs.take n := by
  unfold cutV
  rw [HT.sIx_none, HT.sIx_nat, List.drop_zero, Nat.sub_zero]
  by_cases h : n ≤ xs.length
  · rw [Nat.min_eq_left h]
  · rw [Nat.min_eq_right (by omega), List.take_length, List.take_of_length_le (by omega)]
theorem cutV_from {xs : List V} {n : Nat} : cutV xs (some (n : Int)) none = xs.drop n := by
  unfold cutV
  rw [HT.sIx_none, HT.sIx_nat]
  by_cases h : n ≤ xs.length
  · rw [Nat.min_eq_left h, List.take_of_length_le (by rw [List.length_drop]; exact Nat.le_refl _)]
  · rw [Nat.min_eq_right (by omega), List.drop_of_length_le (Nat.le_refl _), List.drop_of_length_le (by omega)]
    exact List.take_nil
/-- a row of tuples, each by its contents -/
def TupAll (K : PySem.W.Frag) (H : Hp) : List V → List (List V) → Prop := Paired fun v ys => ∃ t, v = .ref t ∧ SqT K H t ys
theorem TupAll.len {vs : List V} {ys : List (List V)} (h : TupAll K H vs ys) : vs.length = ys.length := Paired.length h
theorem TupAll.up {H' : Hp} {vs : List V} {ys : List (List V)} (h : TupAll K H vs ys) (e : Ex H H') : TupAll K H' vs ys := Paired.mapP h fun v y ⟨t, h1, h2⟩ => ⟨t, h1, ex_t e h2⟩
theorem TupAll.app : ∀ {vs ws : List V} {ys zs : List (List V)}, TupAll K H vs ys → TupAll K H ws zs → TupAll K H (vs ++ ws) (ys ++ zs)
  | _, _, _, _, .nil, h => h
  | _, _, _, _, .cons a t, h => .cons a (TupAll.app t h)
theorem TupAll.get : ∀ {vs : List V} {ys : List (List V)} {i : Nat} {v : V}, TupAll K H vs ys → vs[i]? = some v → ∃ t y, v = .ref t ∧ ys[i]? = some y ∧ SqT K H t y
  | _, _, _, _, .nil, e => by simp at e
  | _, _, 0, _, .cons ⟨t, h1, h2⟩ _, e => by
    simp at e
    subst e
    exact ⟨t, _, h1, rfl, h2⟩
  | _, _, i + 1, _, .cons _ r, e => by
    obtain ⟨t, y, h1, h2, h3⟩ := TupAll.get (i := i) r (by simpa using e)
    exact ⟨t, y, h1, by simpa using h2, h3⟩
end
/-- all lots of some things -/
def lots {α : Type} (xs : List α) : List (List α) := xs.foldl (fun f x => f ++ f.map (· ++ [x])) [[]]
theorem lots_snoc {α : Type} (xs : List α) (x : α) : lots (xs ++ [x]) = lots xs ++ (lots xs).map (· ++ [x]) := by
  unfold lots
  rw [List.foldl_append]
  rfl
theorem lots_len {α : Type} (xs : List α) : (lots xs).length = 2 ^ xs.length := by
  have : ∀ n (l : List α), l.length = n → (lots l).length = 2 ^ n := by
    intro n
    induction n with
    | zero =>
      intro l h
      rw [List.length_eq_zero_iff.mp h]
      rfl
    | succ n ih =>
      intro l h
      have hne : l ≠ [] := fun e => by rw [e] at h; cases h
      have e := List.dropLast_concat_getLast hne
      rw [← e, lots_snoc, List.length_append, List.length_map, ih l.dropLast (by rw [List.length_dropLast]; omega), Nat.pow_succ]
      omega
  exact this _ xs rfl
theorem lots_size {α : Type} {xs : List α} : ∀ l ∈ lots xs, l.length ≤ xs.length := by
  have : ∀ n (l : List α), l.length = n → ∀ y ∈ lots l, y.length ≤ n := by
    intro n
    induction n with
    | zero =>
      intro l h y hy
      rw [List.length_eq_zero_iff.mp h] at hy
      have : y = [] := by simpa [lots] using hy
      rw [this]
      exact Nat.le_refl 0
    | succ n ih =>
      intro l h y hy
      have hne : l ≠ [] := fun e => by rw [e] at h; cases h
      have e := List.dropLast_concat_getLast hne
      rw [← e, lots_snoc] at hy
      rcases List.mem_append.mp hy with m | m
      · exact Nat.le_succ_of_le (ih _ (by rw [List.length_dropLast]; omega) y m)
      · obtain ⟨z, hz, rfl⟩ := List.mem_map.mp m
        have := ih _ (by rw [List.length_dropLast]; omega) z hz
        rw [List.length_append]
        show z.length + 1 ≤ n + 1
        omega
  exact this _ xs rfl
end LB
end
section
set_option Elab.async false
set_option linter.all false
set_option maxRecDepth 100000
set_option maxHeartbeats 4000000
/-! isinstance of data; own exceptions over Refused -/
namespace LB
open PySem PySem.Spec PyProof.Rows L2 Evl
/-! ### isinstance of data -/
def tyN : PyData → String
  | .none => "NoneType"
  | .bool _ => "bool"
  | .int _ => "int"
  | .str _ => "str"
  | .list _ => "list"
  | .tuple _ => "tuple"
  | .dict _ => "dict"
def isInt : PyData → Bool
  | .int _ => true
  | .bool _ => true
  | _ => false
def isBool : PyData → Bool
  | .bool _ => true
  | _ => false
def isStr : PyData → Bool
  | .str _ => true
  | _ => false
def isTup : PyData → Bool
  | .tuple _ => true
  | _ => false
def isLst : PyData → Bool
  | .list _ => true
  | _ => false
section
variable {K : PySem.W.Frag} {H : Hp} {v : V} {d : PyData} {Q : VK}
theorem dp_ty (h : Dp K H v d) : TyX K H v (.type (tyN d)) := by
  cases h with
  | non => exact .base .non
  | bl b => exact .base (.bl b)
  | int i => exact .base (.int i)
  | str x => exact .base (.str x)
  | lst hs _ =>
    rcases hs with (h | ⟨o, h⟩) | ⟨o, its, n, h, c, _⟩
    · exact .base (.lst h)
    · exact .base (.frz h)
    · exact .kList h c
  | tup hs _ =>
    rcases hs with (h | ⟨o, h⟩) | ⟨o, its, n, h, c, _⟩
    · exact .base (.tup h)
    · exact .fTuple h
    · exact .kTuple h c
theorem kit6 {T : String} {f : PyData → Bool} (hf : (∀ b, f (.bool b) = f (.bool true)) ∧ (∀ i, f (.int i) = f (.int 0)) ∧ (∀ x, f (.str x) = f (.str Str.empty)) ∧ (∀ x, f (.list x) = f (.list [])) ∧ (∀ x, f (.tuple x) = f (.tuple [])))
    (h0 : kitB "NoneType" T = some (f .none)) (h1 : kitB "bool" T = some (f (.bool true))) (h2 : kitB "int" T = some (f (.int 0))) (h3 : kitB "str" T = some (f (.str Str.empty))) (h4 : kitB "list" T = some (f (.list []))) (h5 : kitB "tuple" T = some (f (.tuple [])))
    (h : Dp K H v d) : PySem.W.kitOne K (.type (tyN d)) (.type T) = some (f d) := by
  obtain ⟨f1, f2, f3, f4, f5⟩ := hf
  cases h with
  | non => exact kit_ty h0
  | bl b => rw [f1]; exact kit_ty h1
  | int i => rw [f2]; exact kit_ty h2
  | str x => rw [f3]; exact kit_ty h3
  | lst _ _ => rw [f4]; exact kit_ty h4
  | tup _ _ => rw [f5]; exact kit_ty h5
theorem kit_int (h : Dp K H v d) : PySem.W.kitOne K (.type (tyN d)) (.type "int") = some (isInt d) :=
  kit6 (f := isInt) ⟨fun _ => rfl, fun _ => rfl, fun _ => rfl, fun _ => rfl, fun _ => rfl⟩ (by decide +kernel) (by decide +kernel) (by decide +kernel) (by decide +kernel) (by decide +kernel) (by decide +kernel) h
theorem kit_bool (h : Dp K H v d) : PySem.W.kitOne K (.type (tyN d)) (.type "bool") = some (isBool d) :=
  kit6 (f := isBool) ⟨fun _ => rfl, fun _ => rfl, fun _ => rfl, fun _ => rfl, fun _ => rfl⟩ (by decide +kernel) (by decide +kernel) (by decide +kernel) (by decide +kernel) (by decide +kernel) (by decide +kernel) h
theorem kit_str (h : Dp K H v d) : PySem.W.kitOne K (.type (tyN d)) (.type "str") = some (isStr d) :=
  kit6 (f := isStr) ⟨fun _ => rfl, fun _ => rfl, fun _ => rfl, fun _ => rfl, fun _ => rfl⟩ (by decide +kernel) (by decide +kernel) (by decide +kernel) (by decide +kernel) (by decide +kernel) (by decide +kernel) h
theorem kit_tup (h : Dp K H v d) : PySem.W.kitOne K (.type (tyN d)) (.type "tuple") = some (isTup d) :=
  kit6 (f := isTup) ⟨fun _ => rfl, fun _ => rfl, fun _ => rfl, fun _ => rfl, fun _ => rfl⟩ (by decide +kernel) (by decide +kernel) (by decide +kernel) (by decide +kernel) (by decide +kernel) (by decide +kernel) h
theorem kit_lst (h : Dp K H v d) : PySem.W.kitOne K (.type (tyN d)) (.type "list") = some (isLst d) :=
  kit6 (f := isLst) ⟨fun _ => rfl, fun _ => rfl, fun _ => rfl, fun _ => rfl, fun _ => rfl⟩ (by decide +kernel) (by decide +kernel) (by decide +kernel) (by decide +kernel) (by decide +kernel) (by decide +kernel) h
theorem kit_dict (h : Dp K H v d) : PySem.W.kitOne K (.type (tyN d)) (.type "dict") = some false :=
  kit6 (f := (fun _ => false)) ⟨fun _ => rfl, fun _ => rfl, fun _ => rfl, fun _ => rfl, fun _ => rfl⟩ (by decide +kernel) (by decide +kernel) (by decide +kernel) (by decide +kernel) (by decide +kernel) (by decide +kernel) h
end
/-! ### Refused and what stands under it -/
/-- what the written part says of an exception class under Refused, which has __init__(self, what) at fI -/
structure XCl (K : PySem.W.Frag) (mg : Str → Option Value) (x : Str) (C fI : Addr) : Prop where
  gC : mg x = some (.ref C)
  ox : OexC K C
  iC : PySem.W.findIn K (.ref C) "__init__" = some (some (.ref fI))
  no : PySem.W.findIn K (.ref C) "what" = some none
/-- .. where it is caught -/
structure XCt (K : PySem.W.Frag) (C : Addr) : Prop where
  xf : XfC K C
  ec : ExcC K C
/-- the text of Refused.__init__ -/
structure RefI (K : PySem.W.Frag) (mg : Str → Option Value) (st : Stmt) (fI : Addr) : Prop where
  fn : ∃ fd, L2.Fun K "__init__" "Refused.__init__" st fI fd ∧ L2.Binds K fd ["self", "what"] []
  ty : PySem.W.typeIn K (.ref fI) = some (.type "function")
  m_VE : mg "ValueError" = none
  ve : PySem.W.findCls K (.type "ValueError") (.type "type") "__init__" = some (.val (.builtin "ValueError.__init__"))
def spRef (K : PySem.W.Frag) : Sp := fun vs H Q _ => ∃ (a C : Addr) (v : V), vs = [.ref a, v] ∧ OexC K C ∧ PySem.W.findIn K (.ref C) "what" = some none ∧ H a = some (exo a C none) ∧
  ∀ dx, H dx = none → dx ≠ a → Q .non (upd (upd H dx (exd dx [("what", v)])) a (exo a C (some dx)))
/-- __init__ may be called -/
structure InitOk (P : Program) (w : World) (K : PySem.W.Frag) (mg : Str → Option Value) (base : Heap) (fI : Addr) : Prop where
  ex : ∃ fd, FnOk P w K mg base CX0 1 fI fd ["self", "what"] (spRef K) ∧ L2.Binds K fd ["self", "what"] []
  ty : PySem.W.typeIn K (.ref fI) = some (.type "function")
theorem del_put {H : Hp} {a dx : Addr} {o o2 : HO} {fs : List (Str × V)} (ha : H a = none) (ne : dx ≠ a) : upd (del (upd (upd (upd H a o) dx (exd dx fs)) a o2) a) dx (.xd fs) = upd H dx (.xd fs) := by
  funext b
  by_cases h : b = dx
  · rw [h, upd_same, upd_same]
  · rw [upd_ne h, upd_ne h]
    by_cases g : b = a
    · rw [g, del_same, ha]
    · rw [del_ne g, upd_ne g, upd_ne h, upd_ne g]
section
variable {X : Cx} {p pos : Pos} {e : Expr} {es : List Expr} {ta : TA}
/-- C(e, ..) as the library's pmk_oex has it, the context kept None -/
theorem pmk_oexN {CX : CXT} {x : Str} {C fI : Addr} {k : Nat} {fd : FuncData} {ps : List Str} {sp : Sp} {ds : List Value} {dvs : List V} (T : OexC X.K C) (iC : PySem.W.findIn X.K (.ref C) "__init__" = some (some (.ref fI))) (tI : PySem.W.typeIn X.K (.ref fI) = some (.type "function"))
    (F1 : FnOk X.prog X.w X.K X.mg X.base CX k fI fd ps sp) (hr : Room (k + 1) X.A) (hb : Binds X.K fd ps ds) (hd : Vals dvs ds) (hx : Passes CX X (fun _ _ _ => False)) (hg : Gl X x) (hm : X.mg x = some (.ref C)) (ha : PA X (e :: es) ta)
    (hdb : (x == ("__debug__" : Str)) = false := by decide) (he : starEach (e :: es) X.env = (false, eval e X.env) :: starEach es X.env := by rfl) (hpl : (backTo pos (starEach es X.env)).any (·.1) = false := by rfl) :
    L2N.PMk X (.Call (.Name x p) (e :: es) [] pos) (tMkO C sp dvs ta) := by
  intro pins s σ H Q I h
  obtain ⟨nm, q, N, bs, bm, sn, sub, ab, col, dd, k0, k1, k2, k3, k5, hC, hbm⟩ := T.cls
  refine wpAny_Call_Name_kw (ld_glob I hg hm ?_ hdb)
  refine PySem.W.callWith_K (h₀ := X.base) I.ok.mod.kin T.kC (thn (ha.run pos pins s σ H _ I h) fun us s1 ⟨vs, H1, I1, r1, hz, q1⟩ => ⟨I1.kIn, ?_⟩) he hpl
  show wpAny _ _ (call (.ref C) us) _ _ _
  obtain ⟨hp, g, dr, tk, os⟩ := s1
  have hsz : hp.objs.size ≤ hp.objs.size + 1 := Nat.le_succ _
  have hn : H1 (hp.objs.size + 1) = none := I1.hok.fresh hsz
  have hq := q1 (hp.objs.size + 1) hn
  have kk : ∀ b o, hp.get? b = some o → ((hp.push (PySem.W.kdv_tup us)).push (PySem.HandSPX.excO C hp.objs.size)).get? b = some o := fun b o e => Heap.get?_push_of_some _ (Heap.get?_push_of_some _ e)
  have hget : ((hp.push (PySem.W.kdv_tup us)).push (PySem.HandSPX.excO C hp.objs.size)).get? (hp.objs.size + 1) = some (PySem.HandSPX.excO C hp.objs.size) := by heap_get
  have I2 : Inv X pins σ (upd H1 (hp.objs.size + 1) (exo (hp.objs.size + 1) C none)) ⟨(hp.push (PySem.W.kdv_tup us)).push (PySem.HandSPX.excO C hp.objs.size), g, dr, tk, os⟩ :=
    I1.laid (t' := tk) (a := hp.objs.size + 1) (o := exo (hp.objs.size + 1) C none) (h' := (hp.push (PySem.W.kdv_tup us)).push (PySem.HandSPX.excO C hp.objs.size)) kk hsz (exo_ok hget)
  have r2 : Vals (V.ref (hp.objs.size + 1) :: (vs ++ dvs)) (Value.ref (hp.objs.size + 1) :: (us ++ ds)) := .cons rfl (r1.append hd)
  have hl : (Value.ref (hp.objs.size + 1) :: us ++ ds).length = ps.length := by
    have e := r2.length
    rw [F1.len _ _ _ _ hq] at e
    exact e.symm
  have hus : us.length ≤ sizeLine := by
    rw [← Paired.length r1, sizeLine_eq]
    omega
  refine wpAny_call (PySem.HandSPX.call_own F.excBase_ValueError (fun Y => PySem.HandSPX.refsVE_contains Y bm hbm) (I1.kIn _ _ hC) (PySem.W.looks_findIn I1.kIn iC) (fun self => PySem.W.bind_fn I1.kIn self tI) hus
    (codeAny_mono (F1.run _ X.stack _ _ ⟨Value.ref (hp.objs.size + 1) :: us, []⟩ (Value.ref (hp.objs.size + 1) :: (us ++ ds)) _ _ (fun _ _ _ => False) (hr.make C us []) (I2.env0.make C us []) (hb _ (Value.ref (hp.objs.size + 1) :: us) I2.kIn hl) r2 hq) fun r s' hq' => ?_))
  cases r with
  | error er => exact hx pins σ _ _ er s' I2 hq'
  | ok fl =>
    cases fl with
    | ret u =>
      obtain ⟨v, H2, os2, bare2, un2, hok2, rv, ev, d, fs, ea, ed, hd1, q2⟩ := hq'
      subst ev
      obtain ⟨h2, g2, d2, t2, os'⟩ := s'
      obtain ⟨t0, G, J, kG, ge, hoe, na⟩ := mk_end0 (d2 := d2) (t2 := t2) I1 hsz kk un2 hok2 os2 bare2 ea ed hd1
      exact ⟨rv, ⟨hp.objs.size + 1, _, _, ⟨G, g2, d2, t2, os'⟩, _, .ref C, some d, rfl, J, kG, ge, hoe, ⟨rfl, rfl, fun vs hv => by cases hv; rfl⟩, rfl, rfl, na, rfl, bare2, raises_own T.exC T.tyC, q2⟩⟩
    | next => exact False.elim hq'
    | brk => exact False.elim hq'
    | cont => exact False.elim hq'
end
section
variable {X : Cx} {x : Str} {C fI : Addr} {p pos pos2 : Pos} {e : Expr} {te : TE} {j : Nat}
/-- raise C(e) in a def that lets the exception out -/
def tRaiseX (K : PySem.W.Frag) (C : Addr) (E : XK) (te : TE) : TS := fun _ σ H => tMkO C (spRef K) [] (tCons te tNil) σ H fun cls d H' => E cls d H'
theorem ps_raiseX {E : XK} (hc : X.calm = true) (tk : L2N.Takes X (fun cls d _ H => E cls d H)) (c : XCl X.K X.mg x C fI) (i : InitOk X.prog X.w X.K X.mg X.base fI) (hr : Room j X.A) (hj : 2 ≤ j) (hg : Gl X x) (he : PE X e te)
    (hdb : (x == ("__debug__" : Str)) = false := by decide) (hs : starEach (e :: []) X.env = (false, eval e X.env) :: starEach [] X.env := by rfl) (hpl : (backTo pos (starEach [] X.env)).any (·.1) = false := by rfl) :
    PS X (.Raise (some (.Call (.Name x p) [e] [] pos)) none pos2) (tRaiseX X.K C E te) := by
  obtain ⟨fd, F, b⟩ := i.ex
  exact L2N.ps_raise (pos := pos2) hc tk (pmk_oexN (p := p) (pos := pos) c.ox c.iC i.ty F (hr.mono hj) b .nil pass0 hg c.gC (pa_cons he pa_nil hs) hdb hs hpl)
/-- what it asks behind its argument -/
theorem mk_ref {K : PySem.W.Frag} {mg : Str → Option Value} {E : XK} {v : V} {H : Hp} (c : XCl K mg x C fI) (h : ∀ d, H d = none → E (.ref C) (some d) (upd H d (.xd [("what", v)]))) :
    [v].length ≤ 1000 ∧ ∀ a, H a = none → spRef K (.ref a :: ([v] ++ [])) (upd H a (exo a C none))
      (fun u H2 => u = .non ∧ ∃ (d : Addr) (fs : List (Str × V)), H2 a = some (exo a C (some d)) ∧ H2 d = some (exd d fs) ∧ H d = none ∧ E (.ref C) (some d) (upd (del H2 a) d (.xd fs))) (fun _ _ _ => False) := by
  refine ⟨(by decide : 1 ≤ 1000), fun a ha => ⟨a, C, v, rfl, c.ox, c.no, upd_same, fun dx hd ne => ⟨rfl, dx, [("what", v)], upd_same, by rw [upd_ne ne, upd_same], ?_, ?_⟩⟩⟩
  · rw [upd_ne ne] at hd
    exact hd
  · rw [del_put ha ne]
    rw [upd_ne ne] at hd
    exact h dx hd
end
section
variable {P : Program} {w : World} {K : PySem.W.Frag} {mg : Str → Option Value} {base : Heap}
theorem init_ok {st : Stmt} {fI : Addr} (R : RefI K mg st fI) (S : FnScope ["self", "what"] ["self", "what"] (defScope st))
    (hb : ∀ (f : Addr) (cdv : Value) (A : Around) (outer : List Env) (s : Shared) (H : Hp) (E : XK), PSs (cxOf CX0 P w K mg base ["self", "what"] "Refused.__init__" (defScope st) f cdv A outer s H E).nox (defBody st)
      (tSeq (tDrop (tVeI K (tCons (tVar 0) (tCons (tVar 1) tNil)))) (tOst K "what" (tVar 0) (tVar 1)))) : InitOk P w K mg base fI := by
  obtain ⟨fd, F, b⟩ := R.fn
  refine ⟨⟨fd, F.ok S (fun vs H Q E h => ?_) (fun cdv A outer s H vs Q E hr h => ⟨_, hb fI cdv A outer s H E, ?_⟩), b⟩, R.ty⟩
  · obtain ⟨a, C, v, rfl, _⟩ := h
    rfl
  · obtain ⟨a, C, v, rfl, ox, no, ha, q⟩ := h
    exact ⟨_, rfl, _, rfl, a, C, [v], rfl, (by decide : 1 ≤ 1000), ox, ha, _, rfl, _, rfl, a, C, rfl, ox, no, Or.inl ⟨ha, q⟩⟩
end
end LB
end
section
set_option Elab.async false
set_option linter.all false
set_option maxRecDepth 100000
set_option maxHeartbeats 4000000
/-! a caught exception that has a dict of its own: isinstance, its fields; a callee that stands in a variable and may raise -/
namespace LB
open PySem PySem.Spec PyProof.Rows L2
/-- isinstance(e, c) of the caught e -/
def rIsX (K : PySem.W.Frag) (cls : Value) (d : Option Addr) (a : Addr) : List V → Hp → VK → Prop := fun xs H Q => ∃ (D : Addr) (c : V) (cv : Value) (b : Bool) (dd : Addr) (fs : List (Str × V)), cls = .ref D ∧ ExcC K D ∧ xs = [.ref a, c] ∧ (∀ u, RelV c u → u = cv) ∧ PySem.W.kitOne K (.ref D) cv = some b ∧
  d = some dd ∧ H dd = some (.xd fs) ∧ Q (.bl b) H
theorem call_isX {X : Cx} {a : Addr} {cls : Value} {d : Option Addr} {oe : Obj} {pn : List (Addr × Obj)} (hz : Zc cls d oe) (hf : ∃ vs, oe.data = .fields vs) : CallR (X.suite a ((a, oe) :: pn)) (.builtin "isinstance") (rIsX X.K cls d a) := by
  intro pins s σ H xs us Q I r h
  obtain ⟨D, c, cv, b, dd, fs, rfl, C, rfl, hcv, e, rfl, ea, q⟩ := h
  cases r with
  | cons rx rr =>
    cases rr with
    | cons rt rr =>
      cases rr
      cases rx
      have ec := hcv _ rt
      subst ec
      obtain ⟨hget, _⟩ := I.pin (a, oe) (List.mem_append.mpr (.inl List.mem_cons_self))
      obtain ⟨vs, hv⟩ := hf
      have hx : ObjOk X.prog X.w H s.heap dd (.xd fs) := I.hok dd _ ea
      obtain ⟨mA, hns, hr⟩ := hx
      obtain ⟨od, ho, hl⟩ := lookIn_ns hns
      have J : PySem.W.InstAt s.heap a oe D (some od) := ⟨hget, hz.1, by unfold PySem.W.notCls; rw [hv] <;> rfl, by rw [hz.2]; exact ho⟩
      have hcl : (PySem.W.clsIn X.K D).isSome = true := by
        obtain ⟨cd, hc, _⟩ := PySem.W.any_some C.hd
        rw [hc]
        rfl
      exact PySem.W.kia_one (PySem.W.kitx_exc hcl C.hg C.hk C.hs C.ha C.hn C.ht C.hm) I.kIn J e (fun z => nomatch z) fun tk => ⟨.bl b, H, I.kept (t' := tk) fun _ _ z => z, rfl, q⟩
/-- e.f of the caught e, whatever its class -/
def tXfX (K : PySem.W.Frag) (a : Addr) (cls : Value) (d : Option Addr) (f : Str) (te : TE) : TE := fun σ H Q => ∃ C : Addr, XfC K C ∧ PySem.W.findIn K (.ref C) f = some none ∧ tXf a cls d C f te σ H Q
theorem pe_xfX {X : Cx} {a : Addr} {oe : Obj} {cls : Value} {d : Option Addr} {pn : List (Addr × Obj)} {e : Expr} {te : TE} {pos : Pos} {n : Str} (hz : Zc cls d oe) (hf : ∃ vs, oe.data = .fields vs) (he : PE (X.suite a ((a, oe) :: pn)) e te)
    (hb : attributeBase e n X.env (eval e X.env) = eval e X.env := by rfl) : PE (X.suite a ((a, oe) :: pn)) (.Attribute e n pos) (tXfX X.K a cls d n te) := by
  constructor
  intro pins s σ H Q I h
  obtain ⟨C, T, hno, h⟩ := h
  exact (pe_xf T hno hz hf he hb).run pins s σ H Q I h
/-- as many slots as names -/
theorem pss_guard {X : Cx} {b : List Stmt} {t : TS} {n : Nat} (h : PSs X b t) (hn : X.N.length = n := by rfl) : PSs X b (fun D σ H => σ.length = n → t D σ H) := by
  constructor
  intro pins s σ H D I q
  exact h.run pins s σ H D I (q (by rw [I.len]; exact hn))
/-- a def that may raise, by its address -/
structure CalXAt (P : Program) (w : World) (K : PySem.W.Frag) (mg : Str → Option Value) (base : Heap) (k : Nat) (f : Addr) (sp : Sp) : Prop where
  ex : ∃ (fd : FuncData) (ps : List Str), FnOk P w K mg base (L2N.CX P w) k f fd ps sp ∧ PySem.W.keepIn K (.ref f) = true ∧ Binds K fd ps []
theorem calX_at {P : Program} {w : World} {K : PySem.W.Frag} {mg : Str → Option Value} {base : Heap} {k : Nat} {x : Str} {f : Addr} {sp : Sp} (c : CalX P w K mg base k x sp) (hm : mg x = some (.ref f)) : CalXAt P w K mg base k f sp := by
  obtain ⟨f', fd, ps, F, h, kp, b⟩ := c.ex
  rw [hm] at h
  cases h
  exact ⟨fd, ps, F, kp, b⟩
/-- v(..), v one of two defs that may raise -/
def tCallVX (i : Nat) (f1 f2 : Addr) (sp1 sp2 : Sp) (E : XK) (t : TA) : TE := fun σ H Q => (σ[i]? = some (some (.ref f1)) ∧ t σ H fun vs H1 => sp1 vs H1 Q E) ∨ (σ[i]? = some (some (.ref f2)) ∧ t σ H fun vs H1 => sp2 vs H1 Q E)
theorem pe_cvX {X : Cx} {i j k1 k2 : Nat} {f1 f2 : Addr} {sp1 sp2 : Sp} {x : Str} {e : Expr} {es : List Expr} {t : TA} {p pos : Pos} {E : XK} (tk : L2N.Takes X (fun cls d _ H => E cls d H)) (c1 : CalXAt X.prog X.w X.K X.mg X.base k1 f1 sp1) (c2 : CalXAt X.prog X.w X.K X.mg X.base k2 f2 sp2)
    (hr : Room j X.A) (hk1 : k1 ≤ j) (hk2 : k2 ≤ j) (hN : X.N[i]? = some x) (hv : Vis X.env.scope x) (ha : PA X (e :: es) t)
    (hd : (x == ("__debug__" : Str)) = false := by decide) (hcd : (x == ("__classdict__" : Str)) = false := by decide)
    (he : starEach (e :: es) X.env = (false, eval e X.env) :: starEach es X.env := by rfl) (hpl : (backTo pos (starEach es X.env)).any (·.1) = false := by rfl) :
    PE X (.Call (.Name x p) (e :: es) [] pos) (tCallVX i f1 f2 sp1 sp2 E t) := by
  constructor
  intro pins s σ H Q I h
  have go : ∀ {k : Nat} {f : Addr} {sp : Sp}, CalXAt X.prog X.w X.K X.mg X.base k f sp → k ≤ j → σ[i]? = some (some (.ref f)) → (t σ H fun vs H1 => sp vs H1 Q E) → wpAny (model X.prog X.w) X.A (eval (.Call (.Name x p) (e :: es) [] pos) X.env) (EP X pins σ Q) X.xe s := fun {k f sp} c hk hs ht => by
    obtain ⟨fd, ps, F, kp, b⟩ := c.ex
    refine wpAny_Call_Name_kw (thn ((pe_var (pos := p) hN hv hd hcd).run pins s σ H (fun v H1 => v = .ref f ∧ H1 = H) I ⟨.ref f, hs, rfl, rfl⟩) fun u s1 ⟨v, H1, I1, r1, q1⟩ => ?_)
    obtain ⟨rfl, rfl⟩ := q1
    cases r1
    refine PySem.W.callWith_K (h₀ := X.base) I.ok.mod.kin kp (thn (ha.run pos pins s1 σ _ _ I1 ht) fun us s2 ⟨vs, H2, I2, r, q⟩ => ⟨I2.kIn, ?_⟩) he hpl
    exact run_fn F (hr.mono hk) b .nil (L2N.passes_call tk fun _ _ _ _ h => h) I2 r (by rw [List.append_nil]; exact q)
  rcases h with ⟨h1, h2⟩ | ⟨h1, h2⟩
  · exact go c1 hk1 h1 h2
  · exact go c2 hk2 h1 h2
end LB
end
section
set_option Elab.async false
set_option linter.all false
set_option maxRecDepth 100000
set_option maxHeartbeats 4000000
/-! a lambda of one parameter, called; sorted(xs, key=lambda x: ..) -/
namespace LB
open PySem PySem.Spec PyProof.Rows L2 Evl LamX
/-- one parameter x, no other name of its own -/
structure LamP (sc scope : Scope) (x : Str) : Prop where
  kind : scope.kind = .function
  co : scope.isCoroutine = false
  gen : scope.isGenerator = false
  own : ∀ y ∈ scope.names, y.2 ≠ .cell ∧ (y.2 = .local → y.1 = x)
  par : scope.names.lookup x = some .local
  free : ∀ y ∈ scope.names, y.2 = .free → sc.names.lookup y.1 = some .cell ∨ sc.names.lookup y.1 = some .free
def lamPB (sc scope : Scope) (x : Str) : Bool :=
  decide (scope.kind = .function) && (!scope.isCoroutine && (!scope.isGenerator && (decide (scope.names.lookup x = some .local) && scope.names.all fun y => !decide (y.2 = .cell) && ((!decide (y.2 = .local) || decide (y.1 = x)) && (!decide (y.2 = .free) || (decide (sc.names.lookup y.1 = some .cell) || decide (sc.names.lookup y.1 = some .free)))))))
theorem lamP_by {sc scope : Scope} {x : Str} (h : lamPB sc scope x = true) : LamP sc scope x := by
  unfold lamPB at h
  simp only [Bool.and_eq_true, Bool.or_eq_true, Bool.not_eq_true', decide_eq_true_eq, decide_eq_false_iff_not, List.all_eq_true] at h
  obtain ⟨h1, h2, h3, h4, h5⟩ := h
  refine ⟨h1, h2, h3, fun y hy => ⟨(h5 y hy).1, fun e => ?_⟩, h4, fun y hy e => ?_⟩
  · rcases (h5 y hy).2.1 with z | z
    · exact absurd e z
    · exact z
  · rcases (h5 y hy).2.2 with z | z
    · exact absurd e z
    · exact z
/-- the context of the lambda's body; it lets no exception out -/
abbrev lamC (X : Cx) (A : Around) (s : Shared) (H : Hp) (scope : Scope) (f c' : Addr) : Cx where
  prog := X.prog
  w := X.w
  K := X.K
  mg := X.mg
  base := X.base
  A := A.deeper (lamEnv X scope s.heap.objs.size f c')
  N := X.N
  s_0 := s
  H_0 := H
  env := lamEnv X scope s.heap.objs.size f c'
  outer := X.stack
  stack := lamEnv X scope s.heap.objs.size f c' :: X.stack
  ex := []
  fn := fun _ => false
  calm := true
  pn := []
  xe := fun _ _ => False
section
variable {X : Cx} {pins : List (Addr × Obj)} {σ : L2.St} {H : Hp} {s : Shared}
theorem lamC_start {A : Around} {scope : Scope} {f c' : Addr} {h₁ : Heap} {tk i : Nat} {x : Str} {v : V} {u : Value} (I : Inv X pins σ H s) (L : LamP X.env.scope scope x) (e0 : Env0 X.prog X.w X.K X.mg X.base A X.stack s H) (hd : A.handled = none)
    (hN : X.N.Nodup) (hi : X.N[i]? = some x) (rv : RelV v u) (hns : h₁.Ns s.heap.objs.size fun y => [(x, u)].reverse.lookup y) (kp : ∀ b o, s.heap.get? b = some o → h₁.get? b = some o) :
    Inv (lamC X A s H scope f c') [] (σ.set i (some v)) H { s with heap := h₁, toks := tk } := by
  have hfree : ∀ y ∈ scope.names, y.2 = .free → ∃ c, X.env.cells.lookup y.1 = some c := fun y hy e => (L.free y hy e).elim (fun k => I.ok.has _ (.inl k)) (fun k => I.ok.has _ (.inr k))
  have cm : ∀ {y : Str} {c : Addr}, (cloFrom X.env.cells scope.names []).lookup y = some c → X.env.cells.lookup y = some c := fun {y c} e => by
    rcases cloFrom_mem (PySem.mem_of_lookup e) with hm | ⟨q1, q2⟩
    · cases hm
    · obtain ⟨c1, hc⟩ := hfree _ q1 rfl
      have hc' : X.env.cells.lookup y = some c1 := hc
      rw [q2, hc']
      rfl
  have look : ∀ {y : Str}, scope.names.lookup y = some .free → ∃ c, (cloFrom X.env.cells scope.names []).lookup y = some c := fun {y} hl => mem_lookup (cloFrom_has (cells := X.env.cells) (acc := []) (PySem.mem_of_lookup hl))
  have cellK : ∀ {c : Addr} {w' : Option Value}, s.heap.IsCell c w' → h₁.IsCell c w' := fun {c w'} ⟨o, ho, hd⟩ => ⟨o, kp _ _ ho, hd⟩
  have iσ : i < σ.length := by rw [I.len]; exact (List.getElem?_eq_some_iff.mp hi).1
  constructor
  · constructor
    · exact e0.mod
    · exact L.kind
    · rfl
    · rfl
    · exact Nat.le_refl _
    · exact fun y z c e1 e2 => I.ok.inj y z c (cm e1) (cm e2)
    · intro y hy
      rcases (show scope.names.lookup y = some .cell ∨ scope.names.lookup y = some .free from hy) with k | k
      · exact absurd rfl (L.own _ (PySem.mem_of_lookup k)).1
      · exact look k
    · intro y c z _
      cases (show false = true from z)
    · exact fun _ => hd
    · exact Around.frames_deeper e0.frames
    · exact .inr ⟨rfl, rfl⟩
    · exact fun b z => nomatch (show b ∈ ([] : List Addr) from z)
    · exact e0.bs
    · exact e0.bsz
    · exact fun b _ _ z => nomatch (show b ∈ ([] : List Addr) from z)
    · exact fun b z => nomatch (show b ∈ ([] : List Addr) from z)
    · exact e0.funs
    · exact e0.frf
  · rfl
  · exact e0.bare
  · exact Un.kept kp
  · refine ⟨_, hns, fun j y z e1 e2 e3 => ?_⟩
    have e3' : Vis scope y := e3
    rcases e3' with k | k | k
    · have ey : y = x := (L.own _ (PySem.mem_of_lookup k)).2 rfl
      subst ey
      have ej : j = i := nodup_ix hN e1 hi
      subst ej
      rw [List.getElem?_set_self iσ] at e2
      cases e2
      refine ⟨u, rv, .inl ⟨k, ?_⟩⟩
      show [(y, u)].reverse.lookup y = some u
      simp [List.lookup]
    · exact absurd rfl (L.own _ (PySem.mem_of_lookup k)).1
    · have nx : j ≠ i := fun z' => by
        subst z'
        rw [hi] at e1
        cases e1
        rw [L.par] at k
        cases k
      rw [List.getElem?_set_ne (Ne.symm nx)] at e2
      obtain ⟨m, hn, hl⟩ := I.loc
      have hvis : Vis X.env.scope y := (L.free _ (PySem.mem_of_lookup k) rfl).elim (fun k => .inr (.inl k)) (fun k => .inr (.inr k))
      obtain ⟨w', r, q⟩ := hl j y z e1 e2 hvis
      obtain ⟨c2, h2⟩ := look k
      have c1 := cm h2
      refine ⟨w', r, .inr ⟨.inr k, c2, h2, ?_⟩⟩
      rcases q with ⟨k', _⟩ | ⟨_, c3, e', z3⟩
      · have k2 : X.env.scope.names.lookup y = some .local := k'
        rcases L.free _ (PySem.mem_of_lookup k) rfl with k3 | k3
        · rw [show X.env.scope.names.lookup y = _ from k3] at k2
          cases k2
        · rw [show X.env.scope.names.lookup y = _ from k3] at k2
          cases k2
      · rw [c1] at e'
        cases e'
        exact cellK z3
  · intro y c e
    obtain ⟨w', z⟩ := I.cell y c (cm e)
    exact ⟨w', cellK z⟩
  · exact e0.hok.fresh (Nat.le_refl _)
  · exact fun y c e => I.freeC y c (cm e)
  · intro q hq
    exact nomatch (show q ∈ ([] : List (Addr × Obj)) from hq)
  · exact e0.hok.kept kp
  · rw [List.length_set]
    exact I.len
/-- a lambda of one parameter is called -/
theorem lam_call {A : Around} {k i : Nat} {x : Str} {f c' : Addr} {params : Arguments} {body : Expr} {scope : Scope} {pm ctv : Value} {tb : TE} {v : V} {u : Value} {Q : VK} {E : Value → Shared → Prop} (I : Inv X pins σ H s) (L : LamP X.env.scope scope x)
    (hN : X.N.Nodup) (hi : X.N[i]? = some x) (hf : s.heap.get? f = some (PySem.W.kla_obj "<lambda>" (X.env.qual ++ "<lambda>") params body scope (cloFrom X.env.cells scope.names []) pm c' ctv)) (hc : H c' = some (CodeO c' (X.env.qual ++ "<lambda>")))
    (e0 : Env0 X.prog X.w X.K X.mg X.base A X.stack s H) (hr : Room (k + 1) A) (rv : RelV v u)
    (hbind : bindArgs (PySem.W.kla_fn "<lambda>" (X.env.qual ++ "<lambda>") params body scope (cloFrom X.env.cells scope.names []) pm (.ref c') ctv) ⟨[u], []⟩ = pure [(x, u)])
    (hbody : Room k (A.deeper (lamEnv X scope s.heap.objs.size f c')) → PE (lamC X A s H scope f c') body tb) (h : tb (σ.set i (some v)) H Q) : wpAny (model X.prog X.w) A (call (.ref f) [u]) (EP X pins σ Q) E s := by
  obtain ⟨⟨oc, vs, t, hoc, hdc, hvc⟩, _, _⟩ := I.hok c' _ hc
  have rc : codeAny (model X.prog X.w) A (.call (.ref f) ⟨[u], []⟩) (CR (fun _ _ _ _ _ _ => False) X.stack X.prog X.w H s Q (fun _ _ _ => False)) s := by
    refine PySem.W.kla_callFunE hr.depth hf rfl L.co L.gen rfl ⟨c', oc, vs, t, rfl, hoc, hdc, hvc⟩ ?_
    rw [hbind]
    refine wpAny_pure (wpAny_newFunctionEnv (fun y hy => (L.own y hy).1) (fun y hy => ?_) (fun h₁ hns hsb => ⟨I.nolimit.fresh _ hsb, ?_⟩) L.kind)
    · rw [List.mem_singleton.mp hy]
      exact L.par
    · show codeAny _ _ (.expr body (lamEnv X scope s.heap.objs.size f c')) _ _
      have kp : ∀ b o, s.heap.get? b = some o → h₁.get? b = some o := fun b o e => hsb.extBut b o (Nat.ne_of_lt (Heap.lt_size e)) (Heap.get?_push_of_some _ e)
      have J := lamC_start (f := f) (c' := c') (tk := s.toks + [(x, u)].length) I L e0 hr.hd hN hi rv hns kp
      refine PySem.W.kla_codeExpr (wpAny_mono ((hbody (hr.deeper _)).run [] _ _ H Q J h) (fun z s' hq => ?_) fun e s' hq => hq.elim)
      obtain ⟨w', H', J', rz, q⟩ := hq
      exact ⟨w', H', J'.os, J'.bare, J'.base, J'.hok, rz, q⟩
  refine wpAny_call (codeAny_mono rc fun r s' hq => ?_)
  cases r with
  | error e => exact False.elim hq
  | ok fl =>
    cases fl with
    | ret u => exact I.after hq
    | next => exact False.elim hq
    | brk => exact False.elim hq
    | cont => exact False.elim hq
/-! ### the sort itself -/
/-- an object that is new since s may be pinned -/
theorem pin_new {s2 : Shared} {H2 : Hp} {a : Addr} {o : Obj} (I : Inv X pins σ H s) (hl : s.heap.objs.size ≤ a) (I2 : HOk X.prog X.w H2 s2.heap) (e : s2.heap.get? a = some o) (hn : H2 a = none) (hd : ∀ v, o.data ≠ .cell v) :
    s2.heap.get? a = some o ∧ H2 a = none ∧ a ≠ X.env.locals ∧ a ∉ X.fs ∧ ∀ v, o.data ≠ .cell v :=
  ⟨e, hn, fun z => Nat.lt_irrefl _ (Nat.lt_of_lt_of_le (by rw [z]; exact I.lt) hl), I.nofs hl, hd⟩
/-- what is sorted: the items by their keys, stably -/
def byKey (items : List V) (kz : List PyData) : List V := ((items.zip kz).mergeSort (PySem.W.dataLe false Prod.snd)).map Prod.fst
theorem each_items : ∀ {items : List V} {vs : List Value} {kz : List PyData}, Vals items vs → kz.length = items.length → PySem.W.EachIs (fun (u : Value) (b : V × PyData) => RelV b.1 u) vs (items.zip kz)
  | _, _, [], .nil, _ => .nil
  | _, _, k :: kz, .nil, h => by cases h
  | _, _, [], .cons r t, h => by cases h
  | _, _, k :: kz, .cons r t, h => .cons r (each_items t (by simpa using h))
theorem vals_each : ∀ {vs : List Value} {bs : List (V × PyData)}, PySem.W.EachIs (fun (u : Value) (b : V × PyData) => RelV b.1 u) vs bs → Vals (bs.map Prod.fst) vs
  | _, _, .nil => .nil
  | _, _, .cons h t => .cons h (vals_each t)
theorem zip_snd {items : List V} {kz : List PyData} (h : kz.length = items.length) : (items.zip kz).map Prod.snd = kz := by
  rw [List.map_snd_zip (by omega)]
theorem each_dp (I : Inv X pins σ H s) : ∀ {kvs : List V} {us : List Value} {ks : List PyData}, Vals kvs us → DpAll X.K H kvs ks → PySem.W.EachIs (fun v k => ∃ as, Reads s.heap v k as) us ks
  | _, _, _, .nil, h => by cases h; exact .nil
  | _, _, _, .cons r t, h => by
    cases h with
    | cons h1 h2 => exact .cons (Dp.reads I _ _ _ h1 r) (each_dp I t h2)
theorem vals_snoc {xs : List V} {us : List Value} {x : V} {u : Value} (h : Vals xs us) (r : RelV x u) : Vals (xs ++ [x]) (us ++ [u]) := Vals.append h (.cons r .nil)
theorem sorted_keyI {a : Addr} {items : List V} {kz : List PyData} {f : Addr} {Q : VK} {E : Value → Shared → Prop} (I : Inv X pins σ H s) (hs : SqL X.K H a items) (hlen : kz.length = items.length) (hal : PySem.W.AllAlike kz) (hsk : PySem.W.Sortable kz)
    (hu : ∀ d ∈ kz, X.A.units + 2 + d.depth < cLine)
    (turn : ∀ (i : Nat) (v : V) (d : PyData) (u : Value), items[i]? = some v → kz[i]? = some d → RelV v u → ∀ (pins' : List (Addr × Obj)) (H' : Hp) (s' : Shared), (∀ p ∈ pins, p ∈ pins') → Inv X pins' σ H' s' → Ex H H' →
      wpAny (model X.prog X.w) X.A.in1.in1 (call (.ref f) [u]) (EP X pins' σ fun kv H2 => Ex H' H2 ∧ Dp X.K H2 kv d) (fun _ _ => False) s')
    (h : ∀ (p : Addr) (H' : Hp), Ex H H' → H p = none → H' p = none → Q (.ref p) (upd H' p (.lst (byKey items kz)))) :
    wpAny (model X.prog X.w) X.A (call (.builtin "sorted") [.ref a] [(Str.ofString "key", .ref f)]) (EP X pins σ Q) E s := by
  obtain ⟨vs, rv, hl, hz⟩ := I.list hs
  have hvl : vs.length = items.length := rv.length.symm
  have hZ : vs.length ≤ sizeLine := by omega
  refine PySem.W.sorted_of_sort hl.isList hZ (ksk_s1 _ _) (fun _ => ksk_l1 _ _) fun E' => ?_
  rw [ksk_t1]
  -- the copy, emptied; the held tuple; the keys' list
  have up0 : ∀ b o, s.heap.get? b = some o → (PySem.W.copyHeap s.heap vs).get? b = some o := fun b o e => PySem.W.copyHeap_old e
  have hcopy := PySem.W.copyHeap_at s.heap vs
  generalize hch : PySem.W.copyHeap s.heap vs = ch at up0 hcopy ⊢
  obtain ⟨e1, ho1⟩ : ∃ e1, (ch.update (s.heap.objs.size + 1) (Obj.mapSeq fun _ => (#[] : Array Value))).get? (s.heap.objs.size + 1) = some (seqObj "list" #[] e1) := ⟨_, get?_update_seq hcopy fun _ => #[]⟩
  have hcs : s.heap.objs.size + 1 < ch.objs.size := Heap.lt_size hcopy
  unfold ksk_tree
  refine wpAny_bind (listItems_at hcopy rfl ?_)
  refine wpAny_bind (listUpdate_at hcopy rfl ?_ (by rw [List.size_toArray]; exact hZ) (Nat.zero_le _))
  refine wpAny_bind (seqEpoch_at ho1 rfl ?_)
  refine wpAny_bind (wpAny_newTuple ?_ (by show vs.length ≤ _; exact hZ))
  refine wpAny_bind (wpAny_newList ?_ (Nat.zero_le _))
  refine wpAny_holding ?_
  generalize hg : ch.update (s.heap.objs.size + 1) (Obj.mapSeq fun _ => (#[] : Array Value)) = g at ho1 ⊢
  have up1 : ∀ b o, s.heap.get? b = some o → g.get? b = some o := fun b o e => by
    rw [← hg, Heap.get?_update_ne _ _ _ _ (Nat.ne_of_lt (Nat.lt_succ_of_lt (Heap.lt_size e)))]
    exact up0 b o e
  have gs : g.objs.size = ch.objs.size := by rw [← hg, Heap.size_update]
  have kS0 : ((g.push { cls := .type "tuple", data := .seq vs.toArray }).push { cls := .type "list", data := .seq #[] }).get? (g.push { cls := .type "tuple", data := .seq vs.toArray }).objs.size = some { cls := .type "list", data := .seq #[] } := Heap.get?_push_size _ rfl
  have a0 : ((g.push { cls := .type "tuple", data := .seq vs.toArray }).push { cls := .type "list", data := .seq #[] }).get? (s.heap.objs.size + 1) = some (seqObj "list" #[] e1) := Heap.get?_push_of_some _ (Heap.get?_push_of_some _ ho1)
  have kSz : s.heap.objs.size + 1 < (g.push { cls := .type "tuple", data := .seq vs.toArray }).objs.size := by
    have : (g.push { cls := .type "tuple", data := .seq vs.toArray }).objs.size = g.objs.size + 1 := by rw [Heap.size_push]
    omega
  generalize hkS : (g.push { cls := .type "tuple", data := .seq vs.toArray }).objs.size = kS at kS0 kSz
  have keep0 : ∀ b o, s.heap.get? b = some o → ((g.push { cls := .type "tuple", data := .seq vs.toArray }).push { cls := .type "list", data := .seq #[] }).get? b = some o := fun b o e => Heap.get?_push_of_some _ (Heap.get?_push_of_some _ (up1 b o e))
  generalize hh0 : (g.push { cls := .type "tuple", data := .seq vs.toArray }).push { cls := .type "list", data := .seq #[] } = h0 at kS0 a0 keep0 ⊢
  have I0 : Inv X pins σ H { s with heap := h0 } := I.kept (t' := s.toks) keep0
  have nA : H (s.heap.objs.size + 1) = none := I.hok.fresh (Nat.le_succ _)
  have nK : H kS = none := I.hok.fresh (by omega)
  have cellD : ∀ v : Value, (seqObj "list" (#[] : Array Value) e1).data ≠ .cell v := fun v z => by cases z
  have seqD : ∀ (xs : Array Value) (n : Nat) (v : Option Value), (seqObj "list" xs n).data ≠ .cell v := fun xs n v z => by cases z
  have hpins : ∀ {H2 : Hp} {s2 : Shared} {pp : List (Addr × Obj)}, Inv X pp σ H2 s2 → (∀ p ∈ pins, p ∈ pp) → ∀ p ∈ pins, s2.heap.get? p.1 = some p.2 ∧ H2 p.1 = none ∧ p.1 ≠ X.env.locals ∧ p.1 ∉ X.fs ∧ ∀ v, p.2.data ≠ .cell v := fun J hp p hm => J.pin p (List.mem_append_right _ (hp p hm))
  have kSne : kS ≠ s.heap.objs.size + 1 := by omega
  have kSlt : s.heap.objs.size ≤ kS := by omega
  have kSX : X.s_0.heap.objs.size ≤ kS := Nat.le_trans I.sz kSlt
  have aX : X.s_0.heap.objs.size ≤ s.heap.objs.size + 1 := Nat.le_trans I.sz (Nat.le_succ _)
  have cellNe : ∀ {b : Addr}, s.heap.objs.size ≤ b → ∀ x c, X.env.cells.lookup x = some c → c ≠ b := fun {b} hb x c e z => by
    obtain ⟨v, o, ho, _⟩ := I.cell x c e
    rw [z] at ho
    exact Nat.lt_irrefl _ (Nat.lt_of_lt_of_le (Heap.lt_size ho) hb)
  have pinNe : ∀ {b : Addr}, s.heap.objs.size ≤ b → ∀ p ∈ X.pn ++ pins, p.1 ≠ b := fun {b} hb p hp z => by
    obtain ⟨ho, _⟩ := I.pin p hp
    rw [z] at ho
    exact Nat.lt_irrefl _ (Nat.lt_of_lt_of_le (Heap.lt_size ho) hb)
  have locNe : ∀ {b : Addr}, s.heap.objs.size ≤ b → b ≠ X.env.locals := fun {b} hb z => Nat.lt_irrefl _ (Nat.lt_of_lt_of_le (by rw [z]; exact I.lt) hb)
  unfold ksk_rest
  refine wpAny_bind (wpAny_rule ?_)
  rw [List.forIn_toArray]
  refine wpAny_bind (ksk_fold (fun i s' => ∃ (H' : Hp) (kA : Array Value) (n : Nat) (kvs : List V), Inv X ((s.heap.objs.size + 1, seqObj "list" #[] e1) :: pins) σ H' s' ∧ Ex H H' ∧ s'.heap.get? kS = some (seqObj "list" kA n) ∧ H' kS = none ∧ Vals kvs kA.toList ∧ DpAll X.K H' kvs (kz.take i)) vs 0 _ ?start ?step ?done)
  case start =>
    refine ⟨H, #[], 0, [], I0.pins_of fun p hp => ?_, Ex.refl H, kS0, nK, .nil, by rw [List.take_zero]; exact .nil⟩
    rcases List.mem_cons.mp hp with e | e
    · subst e
      exact ⟨a0, nA, locNe (Nat.le_succ _), I.nofs (Nat.le_succ _), fun v => seqD _ _ v⟩
    · exact I0.pin p (List.mem_append_right _ e)
  case step =>
    rintro j x s' hx ⟨H', kA, n, kvs, J, e, nk, nkH, hv, hd⟩
    simp only [Nat.zero_add] at hd ⊢
    have hj : j < vs.length := (List.getElem?_eq_some_iff.mp hx).1
    obtain ⟨y, hy⟩ : ∃ y, items[j]? = some y := ⟨_, List.getElem?_eq_getElem (by omega)⟩
    obtain ⟨d, hdj⟩ : ∃ d, kz[j]? = some d := ⟨_, List.getElem?_eq_getElem (by omega)⟩
    obtain ⟨u, hu1, ry⟩ := Vals.get rv hy
    rw [hx] at hu1
    cases hu1
    have hlenK : kA.size = j := by
      have h1 := hv.length
      have h2 := hd.len
      rw [List.length_take] at h2
      have el : kA.toList.length = kA.size := by simp
      omega
    have J2 : Inv X ((kS, seqObj "list" kA n) :: (s.heap.objs.size + 1, seqObj "list" #[] e1) :: pins) σ H' s' := J.pins_of fun p hp => by
      rcases List.mem_cons.mp hp with z | z
      · subst z
        exact ⟨nk, nkH, locNe kSlt, I.nofs kSlt, fun v => seqD _ _ v⟩
      · exact J.pin p (List.mem_append_right _ z)
    refine wpAny_bind (wpAny_attempt (wpAny_mono (turn j y d x hy hdj ry _ H' s' (fun p hp => List.mem_cons_of_mem _ (List.mem_cons_of_mem _ hp)) J2 e) (fun u s2 he => ?_) fun _ _ hF => hF.elim))
    obtain ⟨kv, H2, J3, rk, e3, dk⟩ := he
    try dsimp only
    obtain ⟨nk2, nkH2, _⟩ := J3.pin (kS, seqObj "list" kA n) (List.mem_append_right _ List.mem_cons_self)
    have sb := Heap.SameBut.update s2.heap kS (Obj.mapSeq (·.push u))
    obtain ⟨c2, hc2⟩ : ∃ c2, (s2.heap.update kS (Obj.mapSeq (·.push u))).get? kS = some (seqObj "list" (kA.push u) c2) := ⟨_, get?_update_seq nk2 (·.push u)⟩
    refine wpAny_bind (listUpdate_at nk2 rfl ?_ (by omega) (by rw [Array.size_push]; omega))
    have J4 : Inv X ((s.heap.objs.size + 1, seqObj "list" #[] e1) :: pins) σ H2 s2 := J3.pins_of fun p hp => J3.pin p (List.mem_append_right _ (List.mem_cons_of_mem _ hp))
    have J5 : Inv X ((s.heap.objs.size + 1, seqObj "list" #[] e1) :: pins) σ H2 { s2 with heap := s2.heap.update kS (Obj.mapSeq (·.push u)) } := J4.turned (t' := s2.toks) (it := kS) (fun b o hb q => (sb.2 b hb).trans q) nkH2 (locNe kSlt) (.inr kSX) (cellNe kSlt) fun p hp => by
      rcases List.mem_append.mp hp with z | z
      · exact pinNe kSlt p (List.mem_append_left _ z)
      · rcases List.mem_cons.mp z with z | z
        · subst z
          exact fun q => kSne q.symm
        · exact pinNe kSlt p (List.mem_append_right _ z)
    refine wpAny_pure ⟨rfl, H2, kA.push u, c2, kvs ++ [kv], J5, e.trans e3, hc2, nkH2, ?_, ?_⟩
    · rw [show (kA.push u).toList = kA.toList ++ [u] by simp]
      exact vals_snoc hv rk
    · rw [List.take_add_one, hdj]
      exact (hd.up e3).app (.cons dk .nil)
  case done =>
    rintro s' ⟨H', kA, n, kvs, J, e, nk, nkH, hv, hd⟩
    rw [show kz.take (0 + vs.length) = kz from List.take_of_length_le (by omega)] at hd
    have hk' := each_dp J hv hd
    have hsz : kA.size = vs.length := by
      have h1 := hv.length
      have h2 := hd.len
      have el : kA.toList.length = kA.size := by simp
      omega
    obtain ⟨na, naH, _⟩ := J.pin (s.heap.objs.size + 1, seqObj "list" #[] e1) (List.mem_append_right _ List.mem_cons_self)
    obtain ⟨G, g1, g2⟩ := restrict s'.heap fun b => decide (b ≠ kS)
    have gk : ∀ b, b ≠ kS → G.get? b = s'.heap.get? b := fun b hb => g1 b (decide_eq_true hb)
    have gn : G.get? kS = none := g2 kS (by simp)
    have kp : PySem.W.KeepsBut (s.heap.objs.size + 1) G s'.heap := fun b o hb q => by
      by_cases z : b = kS
      · rw [z, gn] at q
        cases q
      · rw [← gk b z]
        exact q
    try dsimp only
    refine wpAny_bind (listItems_at nk rfl ?_)
    refine PySem.W.keyH_end (κ := PySem.W.dataKind s'.heap kz) (h₁ := G) kp gn nk na kSne (PySem.W.SortsAt.data (s := s') hk' hal hsk hu) hsz hZ fun h3 tk3 c k3 n3 => ⟨rfl, ?_⟩
    have out : PySem.W.EachIs (fun (u : Value) (b : V × PyData) => RelV b.1 u) (PySem.W.sortVals (PySem.W.dataKind s'.heap kz) false kA.toList vs) ((items.zip kz).mergeSort (PySem.W.dataLe false Prod.snd)) := by
      refine PySem.W.keyedOut_each (R := fun (u : Value) (b : V × PyData) => RelV b.1 u) Prod.snd ?_ (each_items rv hlen)
      rw [zip_snd hlen]
      exact ⟨s'.heap, kA.toList, hal, rfl, hk'⟩
    have vout : Vals (byKey items kz) (PySem.W.sortVals (PySem.W.dataKind s'.heap kz) false kA.toList vs) := vals_each out
    have keep : ∀ b o, b ≠ s.heap.objs.size + 1 → b ≠ kS → s'.heap.get? b = some o → h3.get? b = some o := fun b o h1 h2 q => k3 b o h1 (by rw [gk b h2]; exact q)
    have trk : ∀ b o, H' b = some o → b ≠ s.heap.objs.size + 1 ∧ b ≠ kS := fun b o q => ⟨ne_of_none q naH, ne_of_none q nkH⟩
    have J' : Inv X pins σ H' s' := J.pins_of fun p hp => J.pin p (List.mem_append_right _ (List.mem_cons_of_mem _ hp))
    refine ⟨.ref (s.heap.objs.size + 1), upd H' (s.heap.objs.size + 1) (.lst (byKey items kz)), ?_, rfl, h _ H' e nA naH⟩
    refine J'.step (g' := s'.gens) (d' := s'.drawn) (t' := tk3) (h' := h3) (ch := [s.heap.objs.size + 1, kS]) (fun b hb => ?_) (fun b o _ _ hc q _ => ?_) (fun b o _ _ hc q _ => ?_) (fun b o hc q nb => ?_) (fun b o hc q => ?_) (fun b xs q => ?_) (fun b o v q => ?_) (fun b ps q => ?_) (fun m hm => ?_) (fun b o q => ?_) J'.bare
    · rcases List.mem_cons.mp hb with z | z
      · rw [z]
        exact ⟨.inr aX, locNe (Nat.le_succ _), cellNe (Nat.le_succ _), pinNe (Nat.le_succ _)⟩
      · rw [List.mem_singleton.mp z]
        exact ⟨.inr kSX, locNe kSlt, cellNe kSlt, pinNe kSlt⟩
    · exact keep b o (fun z => hc (by rw [z]; exact List.mem_cons_self)) (fun z => hc (by rw [z]; exact List.mem_cons_of_mem _ List.mem_cons_self)) q
    · exact ⟨o.slots, keep b o (fun z => hc (by rw [z]; exact List.mem_cons_self)) (fun z => hc (by rw [z]; exact List.mem_cons_of_mem _ List.mem_cons_self)) q⟩
    · rw [upd_ne (fun z => hc (by rw [z]; exact List.mem_cons_self))]
      exact nb
    · exact ⟨o, keep b o (fun z => hc (by rw [z]; exact List.mem_cons_self)) (fun z => hc (by rw [z]; exact List.mem_cons_of_mem _ List.mem_cons_self)) q⟩
    · rw [upd_ne (trk b _ q).1]
      exact q
    · rw [upd_ne (trk b _ q).1]
      exact q
    · exact ⟨#[], by rw [upd_ne (trk b _ q).1, q]; simp⟩
    · obtain ⟨o, es, ep, ho, r⟩ := hm
      exact ⟨o, es, ep, keep _ o (locNe (Nat.le_succ _)).symm (locNe kSlt).symm ho, r⟩
    · by_cases z : b = s.heap.objs.size + 1
      · subst z
        rw [upd_same] at q
        cases q
        refine ⟨?_, _, c, vout, n3⟩
        rw [vout.length, PySem.W.sortVals_length false (by rw [Array.length_toList]; exact hsz)]
        exact hZ
      · rw [upd_ne z] at q
        refine (J'.hok b o q).stay (fun b2 v hc2 r => ?_) (fun b2 r => by rw [upd_ne (trk b2 _ r).1]; exact r) fun b2 xs r => by rw [upd_ne (trk b2 _ r).1]; exact r
        rcases hc2 with rfl | hc2
        · exact keep _ v (trk _ _ q).1 (trk _ _ q).2 r
        · exact keep _ v (trk _ _ hc2).1 (trk _ _ hc2).2 r
/-! ### sorted(e, key=lambda x: body) -/
theorem extN_l {K : PySem.W.Frag} {H H' : Hp} {a : Addr} {xs : List V} (e : ExtN H H') (h : SqL K H a xs) : SqL K H' a xs := by
  rcases h with (h | ⟨o, h⟩) | h
  · exact Or.inl (Or.inl (e _ _ h fun ps z => by cases z))
  · exact Or.inl (Or.inr ⟨o, e _ _ h fun ps z => by cases z⟩)
  · exact Or.inr h
theorem extN_t {K : PySem.W.Frag} {H H' : Hp} {a : Addr} {xs : List V} (e : ExtN H H') (h : SqT K H a xs) : SqT K H' a xs := by
  rcases h with (h | ⟨o, h⟩) | h
  · exact Or.inl (Or.inl (e _ _ h fun ps z => by cases z))
  · exact Or.inl (Or.inr ⟨o, e _ _ h fun ps z => by cases z⟩)
  · exact Or.inr h
def tSortKey (K : PySem.W.Frag) (T : List (Addr × Str)) (i : Nat) (tb te : TE) : TE := fun σ H Q => te σ H fun x H1 => Tabs T H1 ∧ ∃ (a : Addr) (items : List V) (kz : List PyData), x = .ref a ∧ SqL K H1 a items ∧ kz.length = items.length ∧ PySem.W.AllAlike kz ∧ PySem.W.Sortable kz ∧ (∀ d ∈ kz, d.depth ≤ 8) ∧
  (∀ (j : Nat) (v : V) (d : PyData), items[j]? = some v → kz[j]? = some d → ∀ H2, ExtN H1 H2 → tb (σ.set i (some v)) H2 fun kv H3 => Ex H2 H3 ∧ Dp K H3 kv d) ∧
  ∀ (p : Addr) (H2 : Hp), ExtN H1 H2 → Tabs T H2 → H2 p = none → Q (.ref p) (upd H2 p (.lst (byKey items kz)))
theorem pe_sortKey {T : List (Addr × Str)} {e : Expr} {te tb : TE} {params : Arguments} {body : Expr} {scope : Scope} {lpos kpos p pos : Pos} {x : Str} {i k : Nat} {c P : Addr} (hg : Gl X "sorted") (hm : X.mg "sorted" = none) (he : PE X e te) (L : LamP X.env.scope scope x) (hN : X.N.Nodup) (hi : X.N[i]? = some x)
    (TB : TabB X.base X.mg c P) (hcode : X.env.code = .ref c) (hmT : (P, X.env.qual ++ "<lambda>") ∈ T) (hu : ∀ p ∈ T, p.1 = P → p.2 = X.env.qual ++ "<lambda>") (hr : Room (k + 3) X.A) (hdef : defaultsOf params X.env = ([], []))
    (hbind : ∀ (q : Str) (cl : List (Str × Addr)) (pm cv ctv u : Value), bindArgs (PySem.W.kla_fn "<lambda>" q params body scope cl pm cv ctv) ⟨[u], []⟩ = pure [(x, u)])
    (hbody : ∀ (A : Around) (s : Shared) (H : Hp) (f c' : Addr), Room k (A.deeper (lamEnv X scope s.heap.objs.size f c')) → PE (lamC X A s H scope f c') body tb)
    (hs : starEach (e :: []) X.env = (false, eval e X.env) :: starEach [] X.env := by rfl) :
    PE X (.Call (.Name "sorted" p) [e] [⟨some "key", .Lambda params body scope lpos, kpos⟩] pos) (tSortKey X.K T i tb te) := by
  constructor
  intro pins s σ H Q I h
  refine wpAny_Call_Name_kw (ld_blt (u := .builtin "sorted") I hg hm (by decide +kernel) ?_ (by decide) (by decide))
  have hb : backTo pos (starEach (e :: []) X.env) = (false, eval e X.env) :: backTo pos (starEach [] X.env) := by
    rw [hs]
    rfl
  refine PyProof.Rows.callWith_kw ?_ hb (by rw [hb]; rfl) (by rfl) (by rfl)
  rw [hb]
  refine Calls.spliced_cons (thn (he.run pins s σ H _ I h) fun v s1 hh => ?_)
  obtain ⟨x1, H1, I1, r1, hT, a, items, kz, rfl, hsq, hlen, hal, hsk, hdep, hturn, hq⟩ := hh
  obtain rfl : v = Value.ref a := r1
  refine Calls.spliced_nil ?_
  refine wpAny_evalAll_cons (wpAny_bind (lam_make2 I1 TB hcode hmT hu hT hdef (fun y hy e => (L.free y hy e).elim (fun k => I1.ok.has _ (.inl k)) (fun k => I1.ok.has _ (.inr k))) fun f c' pm' ctv H2 s2 I2 eN T2 hf hfn hfr hco => wpAny_bind (wpAny_standAt (wpAny_pure (wpAny_evalAll_nil ?_)))))
  have nfs : f ∉ X.fs := fun z => by
    rcases I2.ok.stk with e | ⟨e, _⟩
    · exact hfr (by rw [e]; exact z)
    · refine hfr ?_
      rw [e]
      unfold frs
      rw [List.filterMap_cons]
      split
      · exact z
      · exact List.mem_cons_of_mem _ z
  have nL : f ≠ X.env.locals := fun z => by
    obtain ⟨m, ⟨o, es, ep, ho, hd, _⟩, _⟩ := I2.loc
    rw [← z, hf] at ho
    cases ho
    cases hd
  have I3 : Inv X ((f, PySem.W.kla_obj "<lambda>" (X.env.qual ++ "<lambda>") params body scope (cloFrom X.env.cells scope.names []) pm' c' ctv) :: pins) σ H2 s2 := I2.pins_of fun p hp => by
    rcases List.mem_cons.mp hp with z | z
    · subst z
      exact ⟨hf, hfn, nL, nfs, fun v z => by cases z⟩
    · exact I2.pin p (List.mem_append_right _ z)
  have hcall : wpAny (model X.prog X.w) X.A (call (.builtin "sorted") [.ref a] [(Str.ofString "key", .ref f)]) (EP X ((f, PySem.W.kla_obj "<lambda>" (X.env.qual ++ "<lambda>") params body scope (cloFrom X.env.cells scope.names []) pm' c' ctv) :: pins) σ Q) X.xe s2 := by
    refine sorted_keyI (kz := kz) I3 (extN_l eN hsq) hlen hal hsk (fun d hd => ?_) (fun j v d u hv hd rv pins' H' s' hp J e => ?_) fun p H' e _ hp => hq p H' (eN.trans (ExtN.of e)) (T2.ext e) hp
    · have := hr.un
      have := hdep d hd
      omega
    · obtain ⟨hf', _⟩ := J.pin _ (List.mem_append_right _ (hp _ List.mem_cons_self))
      exact lam_call (A := X.A.in1.in1) J L hN hi hf' (e _ _ hco) J.env0.in1.in1 hr.in1.in1 rv (hbind _ _ _ _ _ _) (fun _ => hbody _ s' H' f c' (by assumption)) (hturn j v d hv hd H' (eN.trans (ExtN.of e)))
  exact thn hcall fun u s3 ⟨v, H3, I4, rv, q⟩ => ⟨v, H3, I4.pins_of fun p hp => I4.pin p (List.mem_append_right _ (List.mem_cons_of_mem _ hp)), rv, q⟩
end
end LB
end
section
set_option Elab.async false
set_option linter.all false
set_option maxRecDepth 100000
set_option maxHeartbeats 4000000
/-! tuples turned about; dicts with tuples as keys: dict(rows), update, setdefault -/
namespace LB
open PySem PySem.Spec PyProof.Rows L2 HT
section
variable {prog : Program} {w : World} {A : Around} {E : Value → Shared → Prop} {s : Shared}
theorem turned_adjust (n : Nat) : Builtin.Slice.sliceAdjust none none (-1) (n : Int) = ((n : Int) - 1, -1) := by
  unfold Builtin.Slice.sliceAdjust
  simp
theorem turned_places (n : Nat) : Builtin.Slice.slicePlaces ((n : Int) - 1) (-1) (-1) = n := by
  unfold Builtin.Slice.slicePlaces
  have h1 : ¬ ((-1 : Int) > 0) := by decide
  simp only [h1, if_false]
  by_cases h : (n : Int) - 1 > -1
  · simp only [h, if_true]
    rw [show (- -1 : Int) = 1 by decide, Int.ediv_one]
    omega
  · have e : n = 0 := by omega
    subst e
    simp
theorem turned_applied {sl : Addr} {vs : Value} {n : Nat} {Q : Int × Int × Nat → Shared → Prop} (hs : s.heap.IsSliceOf sl .none .none vs) (pv : IsPart vs (some (-1)))
    (h : Q ((n : Int) - 1, -1, n) s) : wpAny (model prog w) A (Builtin.Slice.sliceApplied (.ref sl) (pure (n : Int))) Q E s := by
  obtain ⟨os, hos, hcs, hds⟩ := id hs
  unfold Builtin.Slice.sliceApplied Builtin.Slice.sliceFields
  refine wpAny_bind (wpAny_bind (wpAny_field hos hds (x := .none) rfl (wpAny_bind (wpAny_field hos hds (x := .none) rfl (wpAny_bind (wpAny_field hos hds (x := vs) rfl (wpAny_pure ?_)))))))
  refine wpAny_bind (slicePart_ pv ?_)
  show wpAny _ _ (if ((-1 : Int) == 0) = true then _ else _) _ _ s
  rw [if_neg (by decide)]
  refine wpAny_bind (slicePart_none (wpAny_bind (slicePart_none (wpAny_bind (wpAny_pure ?_)))))
  show wpAny _ _ (match Builtin.Slice.sliceAdjust none none (-1) (n : Int) with | (lo, hi) => pure (lo, (-1 : Int), Builtin.Slice.slicePlaces lo hi (-1))) _ _ s
  rw [turned_adjust]
  show wpAny _ _ (pure ((n : Int) - 1, (-1 : Int), Builtin.Slice.slicePlaces ((n : Int) - 1) (-1) (-1))) _ _ s
  rw [turned_places]
  exact wpAny_pure h
theorem turned_pick (xs : Array Value) : ((List.range xs.size).filterMap fun (m : Nat) => xs[((xs.size : Int) - 1 + (m : Int) * -1).toNat]?) = xs.toList.reverse := by
  rw [← PySem.W.krv_all xs, ← List.filterMap_reverse, ← PySem.W.krv_range, List.filterMap_map]
  have key : ∀ (l : List Nat), (∀ m ∈ l, m < xs.size) → l.filterMap (fun (m : Nat) => xs[((xs.size : Int) - 1 + (m : Int) * -1).toNat]?) = l.filterMap ((fun x => xs[x]?) ∘ fun k => xs.size - 1 - k) := by
    intro l hl
    induction l with
    | nil => rfl
    | cons m l ih =>
      have hm := hl m List.mem_cons_self
      have e : ((xs.size : Int) - 1 + (m : Int) * -1).toNat = xs.size - 1 - m := by omega
      rw [List.filterMap_cons, List.filterMap_cons, ih fun k hk => hl k (List.mem_cons_of_mem _ hk)]
      simp only [Function.comp_apply, e]
  exact key _ fun m hm => List.mem_range.mp hm
theorem getItem_tuple_turned {t sl : Addr} {items : Array Value} {vs : Value} {Q : Value → Shared → Prop} (ht : IsTup s.heap t items) (hs : s.heap.IsSliceOf sl .none .none vs) (pv : IsPart vs (some (-1)))
    (h : Q (.ref s.heap.objs.size) { s with heap := s.heap.push { cls := .type "tuple", data := .seq items.toList.reverse.toArray } }) (hsz : items.size ≤ sizeLine) : wpAny (model prog w) A (getItem (.ref t) (.ref sl)) Q E s := by
  have htake : sizeOk (.seq items.toList.reverse.toArray) := by
    show items.toList.reverse.toArray.size ≤ sizeLine
    rw [List.size_toArray, List.length_reverse, Array.length_toList]
    exact hsz
  obtain ⟨os, hos, hcs, hds⟩ := id hs
  have hTs : s.TypeIs (.ref sl) "slice" := ⟨os, hos, hcs⟩
  unfold getItem
  try with_reducible refine wpAny_holding ?_
  first | refine wpAny_bind (wpAny_pure ?_) | skip
  refine wpAny_bind (wpAny_sequenceKey ht.typeIs (by decide) ?_)
  refine wpAny_bind (wpAny_callSpecial?_slot (name := Str.ofString "__getitem__") ht.typeIs PyProof.Rows.slot_tuple_getitem
    (wpAny_call_entry PyProof.Rows.slot_tuple_getitem ht.typeIs entry_tuple_getitem ?_ (args_tuple_getitem _ _)))
  show wpAny _ _ (Builtin.Tuple.tupleItemsOf (.ref t) >>= _) _ _ s
  refine wpAny_bind (tupleItemsOf_ ht ?_)
  refine wpAny_bind (wpAny_typeOf hTs ?_)
  rw [if_pos (by decide)]
  refine wpAny_bind (turned_applied hs pv ?_)
  have hno : ¬ ((((items.size : Int) - 1) == 0 && (-1 : Int) == 1 && items.size == items.size) = true) := by
    intro q
    rw [Bool.and_eq_true, Bool.and_eq_true] at q
    exact absurd (eq_of_beq q.1.2) (by decide)
  show wpAny _ _ (if (((items.size : Int) - 1) == 0 && (-1 : Int) == 1 && items.size == items.size) = true then _ else _) _ _ s
  rw [if_neg hno, turned_pick]
  first
    | exact wpAny_bind (m := Builtin.Tuple.tupleExact _) (wpAny_newObj_type (wpAny_pure ⟨_, rfl, wpAny_pure h⟩) htake)
    | exact wpAny_bind (m := Builtin.Tuple.tupleExact _) (wpAny_newObj_type (wpAny_bind (wpAny_pure (wpAny_pure ⟨_, rfl, wpAny_pure h⟩))) htake)
    | exact wpAny_bind (wpAny_bind (m := Builtin.Tuple.tupleExact _) (wpAny_newObj_type (wpAny_pure (wpAny_pure ⟨_, rfl, wpAny_pure h⟩)) htake))
    | exact wpAny_bind (wpAny_bind (m := Builtin.Tuple.tupleExact _) (wpAny_newObj_type (wpAny_pure ⟨_, rfl, wpAny_pure h⟩) htake))
end
section
variable {X : Cx}
/-- t[::-1] -/
def tRevT (K : PySem.W.Frag) (te : TE) : TE := fun σ H Q => te σ H fun x H1 => ∃ a xs, x = .ref a ∧ SqT K H1 a xs ∧ ∀ p, H1 p = none → Q (.ref p) (upd H1 p (.tup xs.reverse))
theorem pe_revT {e : Expr} {te : TE} {k : Nat} {p1 p2 p3 pos : Pos} (he : PE X e te) : PE X (.Subscript e (.Slice none none (some (.UnaryOp .USub (.Constant (.int 1) k p1) p2)) p3) pos) (tRevT X.K te) := by
  constructor
  intro pins s σ H Q I h
  refine Subscript_ (thn (he.run pins s σ H _ I h) fun v s1 ⟨x, H1, I1, r1, q1⟩ => ?_)
  obtain ⟨a, xs, ex, hx, q⟩ := q1
  subst ex
  cases r1
  have hst : PO X (some (.UnaryOp .USub (.Constant (.int 1) k p1) p2)) (tPart (tUn (rU fun i => .int (-i)) (tC (.int 1)))) := po_some (pe_un un_neg pe_int)
  refine wpAny_Slice (thn (po_none.run pins s1 σ H1 (fun o H2 => o = none ∧ H2 = H1) I1 ⟨rfl, rfl⟩) fun vl s2 ⟨l, H2, I2, pl, el, e2⟩ => ?_)
  subst el e2
  refine thn (po_none.run pins s2 σ H2 (fun o H3 => o = none ∧ H3 = H2) I2 ⟨rfl, rfl⟩) fun vu s3 ⟨u, H3, I3, pu, eu, e3⟩ => ?_
  subst eu e3
  refine thn (hst.run pins s3 σ H3 (fun o H4 => o = some (-1) ∧ H4 = H3) I3 ⟨1, rfl, -1, rfl, rfl, rfl⟩) fun vs s4 ⟨o, H4, I4, ps, eo, e4⟩ => ?_
  subst eo e4
  cases pl
  cases pu
  have I5 : Inv X pins σ H4 { s4 with heap := s4.heap.push { cls := .type "slice", data := .fields #[.none, .none, vs] } } := I4.kept (t' := s4.toks) fun b ob q => Heap.get?_push_of_some _ q
  obtain ⟨its, r, ht, hz⟩ := I5.tuple hx
  have hlen := r.length
  have hz' : xs.length ≤ sizeLine := by
    first
      | exact hz
      | (rw [List.size_toArray] at hz; omega)
  show wpAny (model X.prog X.w) X.A (subscriptTail e (.Slice none none (some (.UnaryOp .USub (.Constant (.int 1) k p1) p2)) p3) (.ref a) (.ref s4.heap.objs.size)) (EP X pins σ Q) X.xe { s4 with heap := s4.heap.push { cls := .type "slice", data := .fields #[.none, .none, vs] } }
  refine tail_any (ops := [.ref a, .ref s4.heap.objs.size]) ht.typeIs PyProof.Rows.slot_tuple_getitem.lookup ?_ (by with_unfolding_all rfl)
  refine getItem_tuple_turned ht (Heap.IsSliceOf.new _ .none .none vs) ps ?_ (by rw [List.size_toArray]; omega)
  refine ⟨.ref _, _, I5.laid (t' := s4.toks) (o := .tup xs.reverse) (fun b ob q => Heap.get?_push_of_some _ q) (Nat.le_refl _) ?_, rfl, q _ (I5.hok.fresh (Nat.le_refl _))⟩
  exact ⟨by rw [List.length_reverse]; exact hz', _, r.reverse, IsTup.new _ _⟩
end
/-! ### dicts with tuples as keys -/
def mergeT (kvs more : List (List Key × V)) : List (List Key × V) := more.foldl (fun acc kv => putK acc kv.1 kv.2) kvs
theorem kt_merge {H : Hp} : ∀ {more : List (List Key × V)} {ps : List (List Key × Addr × Value)} {kvs : List (List Key × V)} {xs : List (List Key × Addr × Value)}, KT H more ps → KT H kvs xs → KT H (mergeT kvs more) (storedAllH xs ps)
  | _, _, _, _, .nil, r => r
  | _, _, kvs, xs, .cons (a := p) (b := q) h t, r => by
    have e : KT H (putK kvs p.1 p.2) (storedH xs q.1 q.2.1 q.2.2) := by
      have := r.put p.1 h.2.1 h.2.2
      rw [← h.1]
      exact this
    have z := kt_merge t e
    exact z
theorem length_mergeT : ∀ (more kvs : List (List Key × V)), (mergeT kvs more).length ≤ kvs.length + more.length
  | [], kvs => Nat.le_refl _
  | p :: r, kvs => by
    have h1 := length_mergeT r (putK kvs p.1 p.2)
    have h2 := length_putK kvs p.1 p.2
    show (mergeT (putK kvs p.1 p.2) r).length ≤ _
    rw [List.length_cons]
    omega
/-- rows of two: a tuple that is a key, what stands by it -/
def RowsT (K : PySem.W.Frag) (H : Hp) : List Addr → List (List Key × V) → Prop := Paired fun p kv => ∃ b, SqT K H p [.ref b, kv.2] ∧ H b = some (.tup (kv.1.map kV))
theorem RowsT.up {K : PySem.W.Frag} {H H' : Hp} {ps : List Addr} {kvs : List (List Key × V)} (h : RowsT K H ps kvs) (e : Evl.Ex H H') : RowsT K H' ps kvs := Paired.mapP h fun p kv ⟨b, h1, h2⟩ => ⟨b, Evl.ex_t e h1, e _ _ h2⟩
section
variable {X : Cx}
theorem rows_of {pins : List (Addr × Obj)} {σ : L2.St} {H : Hp} {s : Shared} (I : Inv X pins σ H s) : ∀ {ps : List Addr} {kvs : List (List Key × V)}, RowsT X.K H ps kvs →
    ∃ zs : List (List Key × Addr × Value), KT H kvs zs ∧ zs.length = ps.length ∧ ∀ (j : Nat) (z : List Key × Addr × Value), zs[j]? = some z → ∃ b : Addr, ps[j]? = some b ∧ IsTup s.heap b #[.ref z.2.1, z.2.2] ∧ (tupleKind (mixKind X.prog X.w)).is s.heap z.1 z.2.1
  | _, _, .nil => ⟨[], .nil, rfl, fun j q e => by simp at e⟩
  | _, _, .cons (a := p) (b := kv) h t => by
    obtain ⟨zs, r, hl, hp⟩ := rows_of I t
    obtain ⟨b, h1, h2⟩ := h
    obtain ⟨its, rv, ht, _⟩ := I.tuple h1
    obtain ⟨u, y, ei, ru, ry⟩ := vals2 rv
    subst ei
    cases ru
    refine ⟨(kv.1, b, y) :: zs, .cons ⟨rfl, h2, ry⟩ r, by rw [List.length_cons, List.length_cons, hl], fun j q e => ?_⟩
    cases j with
    | zero =>
      have e' : (kv.1, b, y) = q := Option.some.inj e
      subst e'
      exact ⟨p, rfl, ht, key_of I.hok h2⟩
    | succ j =>
      obtain ⟨b', e1, e2, e3⟩ := hp j q (by simpa using e)
      exact ⟨b', by simpa using e1, e2, e3⟩
/-- dict(xs) of a list of rows, the keys tuples -/
theorem call_dictT (hcalm : X.calm = true) (hu : X.A.units + 5 < cLine) : CallR X (.type "dict") (fun xs H Q => ∃ (a : Addr) (ps : List Addr) (kvs : List (List Key × V)), xs = [.ref a] ∧ SqL X.K H a (ps.map V.ref) ∧ RowsT X.K H ps kvs ∧
    ∀ p, H p = none → Q (.ref p) (upd H p (.dT (mergeT [] kvs)))) := by
  intro pins s σ H xs us Q I r q
  obtain ⟨a, ps, kvs, ex, hq, hp, q⟩ := q
  subst ex
  obtain ⟨u, eu, rx⟩ := vals1 r
  subst eu
  cases rx
  obtain ⟨its, rv, pl, hz⟩ := I.list hq
  have ei := refs_at rv
  subst ei
  rw [List.length_map] at hz
  obtain ⟨zs, rel, hl, hpr⟩ := rows_of I hp
  obtain ⟨o, n, ho, hc, hd, hdat⟩ := pl
  have hcn : ((zs.map fun z => (Value.ref z.2.1, z.2.2)).length) = zs.length := List.length_map ..
  have ok : PlainSeq "list" s.heap a (ps.map Value.ref).toArray ∧ PairItems s.heap (ps.map Value.ref).toArray (fun j => (ps[j]?).getD 0) (zs.map fun z => (Value.ref z.2.1, z.2.2)) := by
    refine ⟨⟨o, n, ho, hc, hd, hdat⟩, ?_, fun j k v e => ?_⟩
    · rw [List.size_toArray, List.length_map, List.length_map, hl]
    · rw [List.getElem?_map] at e
      obtain ⟨z, hz1, hz2⟩ := Option.map_eq_some_iff.mp e
      cases hz2
      obtain ⟨b, e1, ⟨o2, ho2, hc2, n2, hd2⟩, e3⟩ := hpr j z hz1
      refine ⟨?_, Or.inl ?_⟩
      · simp [e1]
      · show Heap.IsTuple s.heap ((ps[j]?).getD 0) _
        rw [e1]
        exact ⟨o2, ho2, hc2, n2, hd2⟩
  have hst : KeysStay (tupleKind (mixKind X.prog X.w)) s.heap s.heap.objs.size [] zs := by
    intro h' hk z hzm
    obtain ⟨j, hj⟩ := List.mem_iff_getElem?.mp hzm
    obtain ⟨b, _, _, e3⟩ := hpr j z hj
    exact tupleKind_stays.stays (fun c oc vs m e _ => hk c oc (Nat.ne_of_lt (Heap.lt_size e)) (fun q => nomatch q) e) e3
  refine call_dict_pairsH (knd := tupleKind (mixKind X.prog X.w)) (ps := zs) (PairArg.list a (ps.map Value.ref).toArray (fun j => (ps[j]?).getD 0) (zs.map fun z => (Value.ref z.2.1, z.2.2))) (I.ok.hd hcalm) (show X.A.units + 1 + 1 < cLine by omega) ok ⟨hcn.symm, fun i key v e => ?_⟩ hst (by rw [hcn, hl]; exact hz) fun h' tk hd' hk => ?_
  · have e' : (zs.map fun z => (Value.ref z.2.1, z.2.2))[i]? = some (key, v) := e
    rw [List.getElem?_map] at e'
    obtain ⟨z, hz1, hz2⟩ := Option.map_eq_some_iff.mp e'
    cases hz2
    exact ⟨z.1, z.2.1, hz1, rfl⟩
  · have hm : (s.heap.objs.size == sysModules) = false := beq_eq_false_iff_ne.mpr (Nat.ne_of_gt I.big)
    have hlen : (mergeT [] kvs).length ≤ sizeLine := by
      refine Nat.le_trans (length_mergeT kvs []) ?_
      have := Paired.length rel
      rw [List.length_nil, Nat.zero_add, this, hl]
      exact hz
    have hk' : ∀ b o, s.heap.get? b = some o → h'.get? b = some o := fun b o e => hk b o (fun q => nomatch q) e
    obtain ⟨qo, es, ep, hq1, h2, h3, h4, _, h5⟩ := hd'
    have fr := I.hok.fresh (Nat.le_refl s.heap.objs.size)
    refine ⟨.ref s.heap.objs.size, upd H s.heap.objs.size (.dT (mergeT [] kvs)), I.laid (t' := tk) hk' (Nat.le_refl _) (show ObjOk X.prog X.w _ _ _ (.dT (mergeT [] kvs)) from ⟨hlen, hm, _, (kt_merge rel .nil).keeps fun c ys ec => ?_, qo, es, ep, hq1, h2, h3, h4, h5⟩), rfl, q _ fr⟩
    rw [upd_ne (ne_of_none ec fr)]
    exact ec
/-- d.update(e), both with tuples as keys -/
def tDUpT (P : Program) (w : World) (td te : TE) : TE := fun σ H Q => td σ H fun x H1 => ∃ a, x = .ref a ∧ IsD H1 a ∧ te σ H1 fun y H2 => ∃ (b : Addr) (kvs more : List (List Key × V)), y = .ref b ∧ a ≠ b ∧ H2 a = some (.dT kvs) ∧ H2 b = some (.dT more) ∧
  kvs.length + more.length ≤ sizeLine ∧ (kvs ≠ [] ∨ (more.map fun x => (tupleKind (mixKind P w)).hash x.1).Nodup) ∧ Q .non (upd H2 a (.dT (mergeT kvs more)))
theorem pe_dupT {o e : Expr} {td te : TE} {apos cpos : Pos} (hu : X.A.units + 5 < cLine) (ho : PE X o td) (he : PE X e te) (m : M1 X o "update" apos e cpos) : PE X (.Call (.Attribute o "update" apos) [e] [] cpos) (tDUpT X.prog X.w td te) := by
  constructor
  intro pins s σ H Q I h
  refine wpAny_Call_method m.base m.few m.line PySem.F.plainAttrs_dict PySem.F.slot_dict_update PySem.F.type_dict_update (thn (ho.run pins s σ H _ I h) fun u s1 ⟨x, H1, I1, rx, a, ex, d, q1⟩ => ?_)
  subst ex
  obtain rfl : u = Value.ref a := rx
  obtain ⟨t1, t2, _⟩ := isD_at I1 d
  refine ⟨t1, t2, ?_⟩
  rw [m.trees]
  refine Calls.callWith_builtin rfl (Calls.evalArgs_plain (Calls.spliced_cons (thn (he.run pins s1 σ H1 _ I1 q1) fun iv s2 ⟨y, H2, I2, ry, b, kvs, more, ey, nab, ea, eb, hl, hap, q2⟩ => Calls.spliced_nil ?_)))
  subst ey
  cases ry
  obtain ⟨z1, hd1, xs, rel1, dd1⟩ := dt_of I2.hok ea
  obtain ⟨z2, hd2, ys, rel2, dd2⟩ := dt_of I2.hok eb
  have l1 : kvs.length = xs.length := Paired.length rel1
  have l2 : more.length = ys.length := Paired.length rel2
  have hh : (more.map fun x => (tupleKind (mixKind X.prog X.w)).hash x.1) = ys.map fun x => (tupleKind (mixKind X.prog X.w)).hash x.1 := by
    clear dd2 z2 l2 hap hl q2 eb
    induction rel2 with
    | nil => rfl
    | cons h t ih => rw [List.map_cons, List.map_cons, ih, h.1]
  refine call_update_dictH (knd := tupleKind (mixKind X.prog X.w)) (show X.A.units + 1 < cLine by omega) nab hd2 dd1 dd2 ?_ (by omega) fun h' hd' _ hs => ?_
  · rcases hap with w1 | w1
    · refine .inl fun e => w1 ?_
      rw [e] at l1
      exact List.length_eq_zero_iff.mp l1
    · refine .inr ⟨fun x hx => ?_, by rw [← hh]; exact w1⟩
      obtain ⟨_, _, _, _, _, _, _, his, _⟩ := id dd2
      exact tupleKind_stays.tuple (his x hx)
  · have hlen : (mergeT kvs more).length ≤ sizeLine := Nat.le_trans (length_mergeT more kvs) hl
    obtain ⟨qo, es, ep, hq1, h2, h3, h4, _, h5⟩ := hd'
    refine ⟨.non, upd H2 a (.dT (mergeT kvs more)), d_write (t' := s2.toks) I2 (by rw [ea]; exact True.intro) hs ⟨qo, hq1⟩ ⟨hlen, hd1, _, (kt_merge rel2 rel1).keeps fun c ys' ec => ?_, qo, es, ep, hq1, h2, h3, h4, h5⟩, rfl, q2⟩
    rw [upd_ne (ne_of ec ea (fun z => nomatch z))]
    exact ec
/-- d.setdefault(t, z) -/
def tDSetdT (td ty tx : TE) : TE := fun σ H Q => td σ H fun x H1 => ∃ a, x = .ref a ∧ IsD H1 a ∧ ty σ H1 fun y H2 => tx σ H2 fun z H3 => ∃ (kvs : List (List Key × V)) (k : List Key) (b : Addr), H3 a = some (.dT kvs) ∧ y = .ref b ∧ H3 b = some (.tup (k.map kV)) ∧ kvs.length < sizeLine ∧
  (∀ v, valV kvs k = some v → Q v H3) ∧ (valV kvs k = none → Q z (upd H3 a (.dT (putK kvs k z))))
theorem pe_dsetdT {o e f : Expr} {td ty tx : TE} {apos cpos : Pos} (hu : X.A.units + 5 < cLine) (ho : PE X o td) (he : PE X e ty) (hf : PE X f tx) (m : M2 X o "setdefault" apos e f cpos) : PE X (.Call (.Attribute o "setdefault" apos) [e, f] [] cpos) (tDSetdT td ty tx) := by
  constructor
  intro pins s σ H Q I h
  refine wpAny_Call_method m.base m.few m.line PySem.F.plainAttrs_dict PySem.F.slot_dict_setdefault PySem.F.type_dict_setdefault (thn (ho.run pins s σ H _ I h) fun u s1 ⟨x, H1, I1, rx, a, ex, d, q1⟩ => ?_)
  subst ex
  obtain rfl : u = Value.ref a := rx
  obtain ⟨t1, t2, _⟩ := isD_at I1 d
  refine ⟨t1, t2, ?_⟩
  rw [m.trees]
  refine Calls.callWith_builtin rfl (Calls.evalArgs_plain (Calls.spliced_cons (thn (he.run pins s1 σ H1 _ I1 q1) fun iv s2 ⟨y, H2, I2, ry, q2⟩ =>
    Calls.spliced_cons (thn (hf.run pins s2 σ H2 _ I2 q2) fun fv s3 ⟨z, H3, I3, rz, kvs, k, b, ea, ey, eb, hl, q3, q4⟩ => Calls.spliced_nil ?_))))
  subst ey
  cases ry
  obtain ⟨z1, hd, xs, rel, dd⟩ := dt_of I3.hok ea
  have l1 : kvs.length = xs.length := Paired.length rel
  have hv := rel.val k
  refine call_setdefault_heap (hsz := by omega) (tupleKind_room_in1 (show X.A.units + 1 < cLine by omega)) (key_of I3.hok eb) hd dd (fun p hp => ?_) fun hn h' dd' hs => ?_
  · rw [hp] at hv
    cases q0 : valV kvs k with
    | none =>
      rw [q0] at hv
      exact (show False from hv).elim
    | some v0 =>
      rw [q0] at hv
      exact ⟨v0, H3, I3.tok _, hv, q3 v0 q0⟩
  · rw [hn] at hv
    cases q0 : valV kvs k with
    | some v0 =>
      rw [q0] at hv
      exact (show False from hv).elim
    | none =>
      have hl2 : (putK kvs k z).length ≤ sizeLine := by
        have := length_putK kvs k z
        omega
      obtain ⟨qo, es, ep, hq1, h2, h3, h4, _, h5⟩ := dd'
      refine ⟨z, upd H3 a (.dT (putK kvs k z)), d_write I3 (by rw [ea]; exact True.intro) hs ⟨qo, hq1⟩ ⟨hl2, hd, _, (rel.put k eb rz).keeps fun c ys' ec => ?_, qo, es, ep, hq1, h2, h3, h4, h5⟩, rz, q4 q0⟩
      rw [upd_ne (ne_of ec ea (fun z => nomatch z))]
      exact ec
end
end LB
end
section
set_option Elab.async false
set_option linter.all false
set_option maxRecDepth 100000
set_option maxHeartbeats 4000000
/-! the end of a law: facts of the written part, and the law's call -/
namespace LB
open PySem PySem.Spec PyProof.Rows L2 LamX
/-- a def as the written part has it; c its code's address -/
structure DnK (K : PySem.W.Frag) (x : Str) (st : Stmt) (f c : Addr) : Prop where
  ex : ∃ (oc : Value) (od : Option Addr) (kV doc pm : Value) (an : Option Addr) (ct : Value) (osl : Array (Option Value)), PySem.W.nsIn K mainGlobals x = some (some (.ref f)) ∧
    K.lookup f = some ⟨oc, od, .func (PySem.W.fnOf x x (defArgs st) (defBody st) (defScope st) .none kV doc pm an (.ref c) ct), osl⟩ ∧ PySem.W.codeIn K (.ref c) x = true ∧ PySem.W.keepIn K (.ref f) = true
theorem dnK_mk {K : PySem.W.Frag} {x : Str} {st : Stmt} {f c : Addr} {oc : Value} {od : Option Addr} {kV doc pm : Value} {an : Option Addr} {ct : Value} {osl : Array (Option Value)} (a : PySem.W.nsIn K mainGlobals x = some (some (.ref f)))
    (l : K.lookup f = some ⟨oc, od, .func (PySem.W.fnOf x x (defArgs st) (defBody st) (defScope st) .none kV doc pm an (.ref c) ct), osl⟩) (cd : PySem.W.codeIn K (.ref c) x = true) (k : PySem.W.keepIn K (.ref f) = true) : DnK K x st f c := ⟨⟨oc, od, kV, doc, pm, an, ct, osl, a, l, cd, k⟩⟩
theorem oex_mk {K : PySem.W.Frag} {C N : Addr} {nm q : Str} {bs bm : List Value} {sn : List Str} {sub : List Value} {ab : Bool} {col : Option Bool} {dd : Option Addr} {k0 k1 k2 k3 k5 : Option Value}
    (cl : K.lookup C = some (excClassObj nm q C N bs bm true sn sub ab col dd k0 k1 k2 k3 k5 "ValueError.__new__")) (hb : PySem.HandSPX.refsVE bm = true) (sa : PySem.W.findIn K (.ref C) "__setattr__" = some (some (.builtin "object.__setattr__")))
    (ex : PySem.W.subIn K (.ref C) (.type "BaseException") = some true) (ty : PySem.W.typeIn K (.ref C) = some (.type "type")) (kc : PySem.W.keepIn K (.ref C) = true) : OexC K C := ⟨⟨_, _, _, _, _, _, _, _, _, _, _, _, _, _, _, cl, hb⟩, sa, ex, ty, kc⟩
section
variable {K : PySem.W.Frag} {x : Str} {st : Stmt} {f c : Addr} {h : Heap} {mg : Str → Option Value} {ps : List Str}
theorem DnK.at_ (D : DnK K x st f c) (X : K.In h) (G : h.Ns mainGlobals mg) : mg x = some (.ref f) := by
  obtain ⟨oc, od, kV, doc, pm, an, ct, osl, a, l, cd, k⟩ := D.ex
  exact PySem.W.mg_of X G a
theorem DnK.dn (D : DnK K x st f c) (X : K.In h) (G : h.Ns mainGlobals mg)
    (hb : ∀ (kV doc pm : Value) (an : Option Addr) (cdv ct : Value) (us : List Value), us.length = ps.length → bindArgs (PySem.W.fnOf x x (defArgs st) (defBody st) (defScope st) .none kV doc pm an cdv ct) ⟨us, []⟩ = pure (ps.zip us)) : Dn K mg x st ps := by
  obtain ⟨oc, od, kV, doc, pm, an, ct, osl, a, l, cd, k⟩ := D.ex
  exact ⟨f, _, L2.fun_mk l cd k, PySem.W.mg_of X G a, .all (hb kV doc pm an (.ref c) ct)⟩
end
end LB
namespace LamX
open PySem PySem.Spec PyProof.Rows L2
/-- walk_ofTs, where the head tells of names left loose, too -/
theorem walk_ofTsX {l : PySem.W.OpenLaw} {n k : Nat} {q : Program} {loose : List Str} {XP : (Str → Option Value) → Heap → Prop} {YP : World → Heap → Prop} {d : DefRec} {K : Params → PySem.W.Frag} {CX : World → CXT} {x : Str}
    (hn : l.most = some n) (hn2 : n ≤ sizeLine) (hdf : d.params.defaults = []) (hr : Room k callerA) (hY : ∀ (w : World) (h : Heap), YP w h → (K w.params).In h)
    (F : ∀ (w : World) (mg : Str → Option Value) (fa : Addr) (h : Heap), YP w h → (K w.params).In h → h.Ns mainGlobals mg → XP mg h → mg d.name = some (.ref fa) → LawAtS l w (K w.params) (CX w) k n x mg fa h)
    (hCX : ∀ (w : World) (H : Hp) (s : Shared) (e : Value) (s' : Shared), CX w [] H s (fun _ _ _ => False) e s' → False) :
    PySem.W.WalkO q loose XP YP l.row.toRowW d [] (fun f vs => PySem.call f vs) := by
  refine Att.attach_callB hn hdf fun w s₀ s₁ mg mb fa o pm cd doc a vs ns G Y ho hd hcd hmg hobj hints hlen hbits hg => ?_
  have KX := hY w _ Y
  obtain ⟨fd, cs, sp, hT, nT, C, hb, hsp, hF⟩ := F w mg fa _ Y KX G.T.g G.X hmg
  exact law_callTs KX G.T.g G.T.b G.T.builtins G.T.nolimit hg hT nT C G.T.bmain hobj hints (Nat.le_trans hlen hn2) hr hF hb (fun H hH hS => hsp H a ns hlen hbits hH hS) fun H e s' => hCX w H s₁ e s'
end LamX
end
section
set_option Elab.async false
set_option linter.all false
set_option maxRecDepth 100000
set_option maxHeartbeats 4000000
/-! enumerate(t) of a tuple; sorted(xs) of data -/
namespace LB
open PySem PySem.Spec PyProof.Rows L2
section
variable {prog : Program} {w : World} {A : Around} {E : Value → Shared → Prop} {s : Shared}
theorem nextOf_tup {it t : Addr} {i : Nat} {items : Array Value} {x : Value} {Q : Value → Shared → Prop} (hit : s.heap.IsTupleIter it t i) (ht : s.heap.IsTuple t items) (hx : items[i]? = some x)
    (hQ : ∀ h', h'.IsTupleIter it t (i + 1) → Heap.SameBut it s.heap h' → Q x { s with heap := h' }) : wpAny (model prog w) A (Builtin.SmallTypes.nextOf (.ref it)) Q E s := by
  obtain ⟨o, ho, hc, hd⟩ := id hit
  obtain ⟨ol, hol, _, nl, hdl⟩ := ht
  unfold Builtin.SmallTypes.nextOf
  refine wpAny_bind (wpAny_callSpecial?_slot (name := Str.ofString "__next__") hit.typeIs F.slot_tuple_iterator_next (wpAny_call_entry F.slot_tuple_iterator_next hit.typeIs F.entry_tuple_iterator_next ?_ (F.args_tuple_iterator_next_1 _)))
  show wpAny _ _ (field (.ref it) 0 >>= _) _ _ s
  refine wpAny_bind (wpAny_field ho hd (x := .ref t) rfl ?_)
  show wpAny _ _ (if (Value.ref t == Value.none) = true then _ else _) _ _ s
  rw [if_neg (show ¬ ((Value.ref t == Value.none) = true) from Bool.false_ne_true)]
  show wpAny _ _ (field (.ref it) 1 >>= _) _ _ s
  refine wpAny_bind (wpAny_field ho hd (x := .int i 0) rfl ?_)
  show wpAny _ _ (seqItems? (.ref t) >>= _) _ _ s
  refine wpAny_bind (wpAny_seqItems hol hdl ?_)
  simp only [Int.toNat_natCast, hx]
  refine wpAny_bind (wpAny_setField ho hd (by simp) (wpAny_pure ⟨x, rfl, wpAny_pure (hQ _ ?_ (Heap.SameBut.update ..))⟩))
  exact ⟨_, Heap.get?_update_self _ ho (Obj.isFreed_of_fields (Obj.data_mapFields hd _)), (Obj.cls_mapFields ..).trans hc, by rw [Obj.data_mapFields hd]; simp [rawInt]⟩
theorem nextOf_tup_end {it t : Addr} {i : Nat} {items : Array Value} {Q : Value → Shared → Prop} (hh : A.handled = none) (hit : s.heap.IsTupleIter it t i) (ht : s.heap.IsTuple t items) (hx : items[i]? = none)
    (hE : ∀ h' e, Heap.ExtBut it s.heap h' → (∃ o, h'.get? e = some o ∧ o.cls = .type "StopIteration") → E (.ref e) { s with heap := h' }) : wpAny (model prog w) A (Builtin.SmallTypes.nextOf (.ref it)) Q E s := by
  obtain ⟨o, ho, hc, hd⟩ := id hit
  obtain ⟨ol, hol, _, nl, hdl⟩ := ht
  unfold Builtin.SmallTypes.nextOf
  refine wpAny_bind (wpAny_callSpecial?_slot (name := Str.ofString "__next__") hit.typeIs F.slot_tuple_iterator_next (wpAny_call_entry F.slot_tuple_iterator_next hit.typeIs F.entry_tuple_iterator_next ?_ (F.args_tuple_iterator_next_1 _)))
  show wpAny _ _ (field (.ref it) 0 >>= _) _ _ s
  refine wpAny_bind (wpAny_field ho hd (x := .ref t) rfl ?_)
  show wpAny _ _ (if (Value.ref t == Value.none) = true then _ else _) _ _ s
  rw [if_neg (show ¬ ((Value.ref t == Value.none) = true) from Bool.false_ne_true)]
  show wpAny _ _ (field (.ref it) 1 >>= _) _ _ s
  refine wpAny_bind (wpAny_field ho hd (x := .int i 0) rfl ?_)
  show wpAny _ _ (seqItems? (.ref t) >>= _) _ _ s
  refine wpAny_bind (wpAny_seqItems hol hdl ?_)
  simp only [Int.toNat_natCast, hx]
  refine wpAny_bind (wpAny_rule (wpAny_bind (wpAny_setField ho hd (by simp) ?_)))
  show wpAny _ _ (newExc (.type "StopIteration") [] >>= _) _ _ _
  refine wpAny_bind ?_
  simp only [newExc, newTuple]
  refine wpAny_bind (wpAny_newObj_type ?_ (by size_fits))
  refine wpAny_bind (m := firstArgMember _ _) (wpAny_of_eq (a := Value.none) (by first | rfl | (simp only [firstArgMember]; rfl)) ?_)
  refine wpAny_newObj_type ?_ (by size_fits)
  simp only [raiseNew]
  refine wpAny_bind (wpAny_handled ?_)
  first | rw [show A.in1.handled = none from hh] | rw [hh]
  refine wpAny_bind (wpAny_pure (wpAny_throw ?_))
  exact hE _ _ (((Heap.SameBut.update ..).extBut.push _).push _) ⟨_, Heap.get?_push_size _ rfl, rfl⟩
theorem draws_tup (hh : A.handled = none) (it t : Addr) (hne : t ≠ it) (items : Array Value) : Draws prog w A it [it, t] items.size (fun i v => items[i]? = some v) (fun i h => h.IsTupleIter it t i ∧ h.IsTuple t items) where
  live := fun _ _ st => let ⟨o, ho, _⟩ := st.1; ⟨o, ho⟩
  frame := fun _ _ _ st hk => ⟨st.1.at fun o e => hk it (by simp) o e, let ⟨o, ho, r⟩ := st.2; ⟨o, hk t (by simp) o ho, r⟩⟩
  item := fun i s Q E hi st hQ => by
    refine nextOf_tup st.1 st.2 (x := items[i]) (by simp [hi]) fun h' hit' hs' => ?_
    exact hQ _ h' s.toks (by simp [hi]) ⟨hit', st.2.extBut hs'.extBut hne⟩ hs'
  done := fun s Q E st hE => nextOf_tup_end hh st.1 st.2 (by simp) hE
theorem meets_enum_tup (l : Addr) (items : Array Value) (n : Nat) (dct : Option Addr) (sl : Array (Option Value)) :
    Meets (Builtin.«enumerate.__new__» ⟨[.type "enumerate", .ref l], []⟩) (fun _ R s => s.heap.get? l = some { cls := .type "tuple", dict := dct, data := .seq items n, slots := sl } ∧
      R (.ok (.ret (.ref (s.heap.push { cls := .type "tuple_iterator", data := .fields #[.ref l, .int 0 0] }).objs.size)))
        { s with heap := (s.heap.push { cls := .type "tuple_iterator", data := .fields #[.ref l, .int 0 0] }).push { cls := .type "enumerate", data := .fields #[.none, .bool false, .ref s.heap.objs.size, rawInt 0, .none, .none] } }) :=
  .of_wp fun prog w A R s h => by
    obtain ⟨hp, g, d, tk, os⟩ := s
    obtain ⟨hl, h⟩ := h
    have hsub := sub_enumerate
    have hL : Heap.IsTuple (Shared.heap ⟨hp, g, d, tk, os⟩) l items := ⟨_, hl, rfl, n, rfl⟩
    wp_walk using AutoSeq1.wpAny_loadPart' hl
    refine wpAny_stack_any fun st => wpAny_pure ?_
    split
    · rename_i c _ _ _ _ _
      cases (c == Value.type "enumerate")
      · wp_walk using AutoSeq1.wpAny_loadPart' hl, wpAny_pyIter_tuple hL
        exact ⟨_, rfl, h⟩
      · wp_walk using AutoSeq1.wpAny_loadPart' hl, wpAny_pyIter_tuple hL
        exact ⟨_, rfl, h⟩
    · wp_walk using AutoSeq1.wpAny_loadPart' hl, wpAny_pyIter_tuple hL
      exact ⟨_, rfl, h⟩
theorem call_enum_tup {l : Addr} {items : Array Value} {Q : Value → Shared → Prop} (hL : s.heap.IsTuple l items)
    (h : ∀ h', IsEnum h' (s.heap.objs.size + 1) s.heap.objs.size 0 .none → h'.IsTupleIter s.heap.objs.size l 0 → h'.objs.size = s.heap.objs.size + 2 →
      (∀ b o, s.heap.get? b = some o → h'.get? b = some o) → Q (.ref (s.heap.objs.size + 1)) { s with heap := h' }) :
    wpAny (model prog w) A (call (.type "enumerate") [.ref l]) Q E s := by
  obtain ⟨⟨c, dct, dt, sl⟩, hl, hc, n, hd⟩ := hL
  replace hc : c = .type "tuple" := hc
  replace hd : dt = .seq items n := hd
  subst hc hd
  refine callType_new F.called_enumerate (by decide) (F.typeCall_enumerate_1 _) (F.newCall_enumerate_1 _) (fun obj => F.args_object_init_2 obj _) F.entry_enumerate_new
    (meets_enum_tup l items n dct sl) ⟨hl, ?_⟩
  have hz : (s.heap.push { cls := .type "tuple_iterator", data := .fields #[.ref l, .int 0 0] }).objs.size = s.heap.objs.size + 1 := Heap.size_push ..
  show _ ∧ _
  rw [hz]
  have he : IsEnum ((s.heap.push { cls := .type "tuple_iterator", data := .fields #[.ref l, .int 0 0] }).push
      { cls := .type "enumerate", data := .fields #[.none, .bool false, .ref s.heap.objs.size, rawInt 0, .none, .none] }) (s.heap.objs.size + 1) s.heap.objs.size 0 .none := by
    have := Heap.get?_push_size (s.heap.push { cls := .type "tuple_iterator", data := .fields #[.ref l, .int 0 0] })
      (o := { cls := .type "enumerate", data := .fields #[.none, .bool false, .ref s.heap.objs.size, rawInt 0, .none, .none] }) rfl
    rw [hz] at this
    exact this
  refine ⟨⟨_, he, rfl⟩, h _ he ⟨_, Heap.get?_push_of_some _ (Heap.get?_push_size _ rfl), rfl, rfl⟩ (by rw [Heap.size_push, hz]) fun b o x => Heap.get?_push_of_some _ (Heap.get?_push_of_some _ x)⟩
end
/-- the tuple at a, each item in a new pair -/
def Itet (K : PySem.W.Frag) (a : Addr) : It :=
  ⟨fun i H => ∃ (xs : List V) (x : V), SqT K H a xs ∧ xs[i]? = some x, fun i H v H' => ∃ T x, v = .ref T ∧ H T = none ∧ H' = upd H T (.tup [.int (i : Nat), x]) ∧ ∀ xs, SqT K H a xs → xs[i]? = some x, fun i H => ∃ xs : List V, SqT K H a xs ∧ xs.length ≤ i⟩
theorem turn_enumT {P : Program} {w : World} {K : PySem.W.Frag} {elts : List Expr} {kk : Nat} {tpos : Pos} (a e it : Addr) :
    Turn P w K (.Tuple elts kk tpos) (Itet K a) [e, it] e (fun i h => (∃ old, IsEnum h e it ((i : Nat) : Int) old) ∧ h.IsTupleIter it a i ∧ e ≠ it ∧ a ≠ it ∧ a ≠ e) where
  mem := by simp
  obj := fun i h st b hb => by
    obtain ⟨⟨old, he⟩, ⟨o, ho, hc, hd⟩, _⟩ := st
    have e' : b = e ∨ b = it := by simpa using hb
    rcases e' with z | z
    · rw [z]; exact ⟨_, he, fun v q => nomatch q⟩
    · rw [z]; exact ⟨o, ho, fun v q => by rw [hd] at q; cases q⟩
  keep := fun i h h' st k => let ⟨⟨old, he⟩, hi, hne⟩ := st; ⟨⟨old, k e (by simp) _ he⟩, hi.at fun o q => k it (by simp) o q, hne⟩
  item := by
    intro X hP hw hK hc i pins s σ H E I hf st hg
    subst hP hw hK
    obtain ⟨⟨old, he⟩, hit, hne, nai, nae⟩ := st
    obtain ⟨xs, x, hq, hx⟩ := hg
    obtain ⟨its, rv, p, hz⟩ := I.tuple hq
    obtain ⟨u, hu, ru⟩ := rv.get hx
    have hel : e < s.heap.objs.size := Heap.lt_size he
    have hil : it < s.heap.objs.size := by obtain ⟨_, q, _⟩ := hit; exact Heap.lt_size q
    have hlt : i < its.toArray.size := by
      rw [List.size_toArray]
      exact (List.getElem?_eq_some_iff.mp hu).1
    refine wpAny_pyNext_enum_itemD (draws_tup (A := X.A.in1) (show X.A.in1.handled = none from I.ok.hd hc) it a nai its.toArray) he ⟨hit, show s.heap.IsTuple a its.toArray from p⟩ hlt hne (by simp [hne, nae.symm]) fun u' h' tk hu' ho hit' hT hsz hk => ?_
    obtain rfl : u' = u := by
      have h1 : its.toArray[i]? = some u := by simpa using hu
      rw [h1] at hu'
      exact (Option.some.inj hu').symm
    refine ⟨_, rfl, wpAny_letOwnedTupleGo_enum (s := { s with heap := h', toks := tk + 1 }) ho fun h'' he' sb => ?_⟩
    have hT2 : h''.get? s.heap.objs.size = some { cls := .type "tuple", data := .seq #[.int i tk, u'] } := (sb.2 _ (Nat.ne_of_gt hel)).trans hT
    have new : ObjOk X.prog X.w (upd H s.heap.objs.size (.tup [.int (i : Nat), x])) h'' s.heap.objs.size (.tup [.int (i : Nat), x]) :=
      ⟨by show 2 ≤ sizeLine; decide, [.int i tk, u'], .cons ⟨_, rfl⟩ (.cons ru .nil), ⟨_, hT2, rfl, _, rfl⟩⟩
    have I1 : Inv X pins σ (upd H s.heap.objs.size (.tup [.int (i : Nat), x])) { s with heap := h'', toks := tk + 1 } :=
      I.turnedNew (ch := [e, it]) (fun b ob hb q => (sb.2 b (fun z => hb (by simp [z]))).trans (hk b ob (fun z => hb (by simp [z])) (fun z => hb (by simp [z])) q)) hf (Nat.le_refl _) new
    refine ⟨.ref s.heap.objs.size, _, I1, rfl, ⟨_, x, rfl, I.hok.fresh (Nat.le_refl _), rfl, fun ys hy => by rw [I.tuple_inj hy hq]; exact hx⟩, ⟨⟨u', ?_⟩, hit'.1.at fun o q => (sb.2 it (Ne.symm hne)).trans q, hne, nai, nae⟩, fun b hb => ?_⟩
    · have e1 : ((i + 1 : Nat) : Int) = (i : Int) + 1 := by omega
      rw [e1]; exact he'
    · have hb' : b < s.heap.objs.size := by
        have e' : b = e ∨ b = it := by simpa using hb
        rcases e' with z | z
        · rw [z]; exact hel
        · rw [z]; exact hil
      rw [upd_ne (Nat.ne_of_lt hb')]
      exact (hf b hb).1
  done := by
    intro X hP hw hK hc i pins s σ H E I hf st hg
    subst hP hw hK
    obtain ⟨⟨old, he⟩, hit, hne, nai, nae⟩ := st
    obtain ⟨xs, hq, hx⟩ := hg
    obtain ⟨its, rv, p, hz⟩ := I.tuple hq
    obtain ⟨f0, f1, f2, f3, f4, f5⟩ := hf it (by simp)
    have hl := rv.length
    have hT : s.TypeIs (.ref e) "enumerate" := ⟨_, he, rfl⟩
    unfold pyNext
    refine wpAny_bind (wpAny_attempt (wpAny_callSpecial?_slot (name := Str.ofString "__next__") hT F.slot_enumerate_next (wpAny_call_entry F.slot_enumerate_next hT F.entry_enumerate_next ?_ (F.args_enumerate_next_1 _))))
    show wpAny _ _ (field (.ref e) 2 >>= _) _ _ _
    refine wpAny_bind (wpAny_field he rfl (x := .ref it) rfl ?_)
    refine wpAny_bind (nextOf_tup_end (I.ok.hd hc) hit (show s.heap.IsTuple a its.toArray from p) (by simp; omega) fun h' x he' hx' => ?_)
    obtain ⟨o, ho, hco⟩ := hx'
    refine wpAny_bind (wpAny_isInstance (T := "StopIteration") (b := true) ⟨o, ho, hco⟩ isSubtype_stop ?_)
    exact wpAny_pure ⟨rfl, I.turned (t' := s.toks) (fun b o hb q => he' b o hb q) f0 f1 f3 f4 f5⟩
  self := fun A i s Q E st h => let ⟨⟨_, he⟩, _⟩ := st; wpAny_pyIter_enum he h
def iEnumT (K : PySem.W.Frag) (ta : TA) : TI := fun σ H R => ta σ H fun vs H1 => ∃ a xs, vs = [.ref a] ∧ SqT K H1 a xs ∧ R (Itet K a) H1
theorem pi_enumT {X : Cx} {e : Expr} {ta : TA} {p pos tpos : Pos} {elts : List Expr} {kk : Nat} (hg : Gl X "enumerate") (hm : X.mg "enumerate" = none) (ha : PA X [e] ta) (hs : starEach [e] X.env = [(false, eval e X.env)] := by rfl) :
    PI X (.Tuple elts kk tpos) (.Call (.Name "enumerate" p) [e] [] pos) (iEnumT X.K ta) := by
  constructor
  intro pins s σ H R I h
  refine Call_ (ld_blt I hg hm boot_enumerate (PyProof.Rows.callWith_type1 (thn (ha.run pos pins s σ H _ I h) fun us s1 ⟨vs, H1, I1, r1, q1⟩ => ?_) hs rfl))
  obtain ⟨a, xs, ex, hq, q⟩ := q1
  subst ex
  cases r1 with
  | cons r rr =>
    cases rr
    cases r
    obtain ⟨its, rv, p', hz⟩ := I1.tuple hq
    have hal : a < s1.heap.objs.size := let ⟨_, ho, _⟩ := p'; Heap.lt_size ho
    refine call_enum_tup (show s1.heap.IsTuple a its.toArray from p') fun h' he hit hsz hk => wpAny_pyIter_enum he ?_
    have I2 : Inv X pins σ H1 { s1 with heap := h' } := I1.kept (t' := s1.toks) hk
    refine ⟨s1.heap.objs.size + 1, [s1.heap.objs.size + 1, s1.heap.objs.size], _, _, H1, rfl, I2, turn_enumT a (s1.heap.objs.size + 1) s1.heap.objs.size, ⟨⟨.none, he⟩, hit, Nat.succ_ne_self _, Nat.ne_of_lt hal, Nat.ne_of_lt (Nat.lt_succ_of_lt hal)⟩, fun b hb => ?_, q⟩
    have e' : b = s1.heap.objs.size + 1 ∨ b = s1.heap.objs.size := by simpa using hb
    have hle : s1.heap.objs.size ≤ b := by
      rcases e' with z | z
      · rw [z]; exact Nat.le_add_right _ _
      · rw [z]; exact Nat.le_refl _
    exact I1.fpOk hle (I1.hok.fresh hle)
theorem walk_enumT {K : PySem.W.Frag} {a : Addr} {xs : List V} : Walk (Itet K a) xs.length (fun H => SqT K H a xs) (YPair (fun i => some (.int (i : Nat))) (fun i => xs[i]?)) := by
  refine ⟨fun i _ hi q => ⟨xs, xs[i], q, by simp [hi]⟩, fun _ q => ⟨xs, q, Nat.le_refl _⟩, fun i H v H' _ q y => ?_⟩
  obtain ⟨T, x, h1, h2, h3, h4⟩ := y
  exact ⟨T, .int (i : Nat), x, h1, h2, h3, rfl, h4 xs q⟩
/-! ### sorted(xs) -/
/-- what goes beside one another is sorted alike -/
def byK {α : Type} (xs : List α) (kz : List PyData) : List α := ((xs.zip kz).mergeSort (PySem.W.dataLe false Prod.snd)).map Prod.fst
theorem zip_each {X : Cx} {pins : List (Addr × Obj)} {σ : L2.St} {H : Hp} {s : Shared} (I : Inv X pins σ H s) : ∀ {items : List V} {us : List Value} {ds : List PyData}, Vals items us → DpAll X.K H items ds →
    PySem.W.EachIs (fun (u : Value) (b : V × PyData) => RelV b.1 u) us (items.zip ds) ∧ PySem.W.EachIs (fun (u : Value) (b : V × PyData) => ∃ as, Reads s.heap u b.2 as) us (items.zip ds)
  | _, _, _, .nil, h => by cases h; exact ⟨.nil, .nil⟩
  | _, _, _, .cons r t, h => by
    cases h with
    | cons h1 h2 =>
      obtain ⟨a, b⟩ := zip_each I t h2
      exact ⟨.cons r a, .cons (Dp.reads I _ _ _ h1 r) b⟩
theorem each_vals : ∀ {vs : List Value} {bs : List (V × PyData)}, PySem.W.EachIs (fun (u : Value) (b : V × PyData) => RelV b.1 u) vs bs → Vals (bs.map Prod.fst) vs
  | _, _, .nil => .nil
  | _, _, .cons h t => .cons h (each_vals t)
def rSortD (K : PySem.W.Frag) : List V → Hp → VK → Prop := fun xs H Q => ∃ (a : Addr) (items : List V) (ds : List PyData), xs = [.ref a] ∧ SqL K H a items ∧ DpAll K H items ds ∧ PySem.W.AllAlike ds ∧ PySem.W.Sortable ds ∧ (∀ d ∈ ds, d.depth ≤ 8) ∧
  ∀ p, H p = none → Q (.ref p) (upd H p (.lst (byK items ds)))
theorem call_sortD {X : Cx} (hu : X.A.units + 16 < cLine) : CallR X (.builtin "sorted") (rSortD X.K) := by
  intro pins s σ H xs us Q I r h
  obtain ⟨a, items, ds, rfl, hq, hd, hal, hsk, hdep, q⟩ := h
  obtain ⟨u, rfl, rx⟩ := vals1 r
  obtain rfl : u = Value.ref a := rx
  obtain ⟨its, rv, pl, hz⟩ := I.list hq
  obtain ⟨e1, e2⟩ := zip_each I rv hd
  have hl : items.length = ds.length := by
    have : ∀ {xs : List V} {ys : List PyData}, DpAll X.K H xs ys → xs.length = ys.length := by
      intro xs ys h
      exact DpAll.len h
    exact this hd
  have hsnd : (items.zip ds).map Prod.snd = ds := by rw [List.map_snd_zip (by omega)]
  have hzl : (items.zip ds).length = items.length := by rw [List.length_zip, hl, Nat.min_self]
  refine PySem.W.sorted_data (bs := items.zip ds) (enc := Prod.snd) (R := fun (u : Value) (b : V × PyData) => RelV b.1 u) pl.isList e1 e2 (by rw [hsnd]; exact hal) (by rw [hsnd]; exact hsk) (by rw [hzl]; exact hz) (fun b hb => ?_) fun out ho eo => ?_
  · have := hdep b.2 (List.of_mem_zip (show (b.1, b.2) ∈ items.zip ds from hb)).2
    omega
  · obtain ⟨c, hc⟩ := sortedAll_at s.heap its (List.toArray out)
    have vout : Vals (byK items ds) out := each_vals eo
    refine ⟨.ref (s.heap.objs.size + 1), upd H (s.heap.objs.size + 1) (.lst (byK items ds)), I.laid (t' := s.toks) (fun b o e => sortedAll_old e) (Nat.le_succ _) ⟨?_, out, c, vout, hc⟩, rfl, q _ (I.hok.fresh (Nat.le_succ _))⟩
    rw [vout.length, ho, hzl]
    exact hz
end LB
end
section
set_option Elab.async false
set_option linter.all false
set_option maxRecDepth 100000
set_option maxHeartbeats 4000000
namespace LB
open PySem PySem.Spec PyProof.Rows L2 LamX
/-- a def with the address of its code -/
structure DnL (K : PySem.W.Frag) (mg : Str → Option Value) (x : Str) (st : Stmt) (ps : List Str) (c : Addr) : Prop where
  ex : ∃ (f : Addr) (oc : Value) (od : Option Addr) (dV kV doc pm : Value) (an : Option Addr) (ct : Value) (osl : Array (Option Value)),
    K.lookup f = some ⟨oc, od, .func (PySem.W.fnOf x x (defArgs st) (defBody st) (defScope st) dV kV doc pm an (.ref c) ct), osl⟩ ∧ PySem.W.codeIn K (.ref c) x = true ∧ PySem.W.keepIn K (.ref f) = true ∧ mg x = some (.ref f) ∧
    L2.Binds K (PySem.W.fnOf x x (defArgs st) (defBody st) (defScope st) dV kV doc pm an (.ref c) ct) ps []
section
variable {P : Program} {w : World} {K : PySem.W.Frag} {mg : Str → Option Value} {base : Heap}
theorem calL_of {x : Str} {st : Stmt} {N ps : List Str} {k : Nat} {sp : Sp} {c : Addr} (D : DnL K mg x st ps c) (S : FnScope N ps (defScope st)) (len : ∀ vs H Q E, sp vs H Q E → vs.length = ps.length)
    (hbody : ∀ (f : Addr) (A : Around) (outer : List Env) (s : Shared) (H : Hp) (vs : List V) (Q : VK) (E : XK), Room k (A.deeper (envOfC x (defScope st) s.heap.objs.size f (.ref c))) → sp vs H Q E →
      ∃ t, PSs (cxOf CX0 P w K mg base N x (defScope st) f (.ref c) A outer s H E).nox (defBody st) t ∧ t { nx := fun _ H' => Q .non H', rt := Q } (start N vs) H) : Cal P w K mg base (k + 1) x sp := by
  obtain ⟨f, oc, od, dV, kV, doc, pm, an, ct, osl, lk, hcd, hk, hm, hb⟩ := D.ex
  refine ⟨f, _, ps, fn_of lk hcd S len fun A outer s H vs Q E hr hsp => ?_, hm, hk, hb⟩
  obtain ⟨t, h, q⟩ := hbody f A outer s H vs Q E hr hsp
  exact ⟨t, h.nox, q⟩
end
theorem paired_zip {α β : Type} {R : α → β → Prop} : ∀ {xs : List α} {ys : List β}, Paired R xs ys → ∃ zs : List (α × β), zs.map Prod.fst = xs ∧ zs.map Prod.snd = ys ∧ ∀ z ∈ zs, R z.1 z.2
  | _, _, .nil => ⟨[], rfl, rfl, fun z h => by cases h⟩
  | _, _, .cons (a := a) (b := b) h t => by
    obtain ⟨zs, h1, h2, h3⟩ := paired_zip t
    refine ⟨(a, b) :: zs, by rw [List.map_cons, h1], by rw [List.map_cons, h2], fun z hz => ?_⟩
    rcases List.mem_cons.mp hz with e | e
    · subst e
      exact h
    · exact h3 z e
theorem zip_paired {α β : Type} {R : α → β → Prop} : ∀ {zs : List (α × β)}, (∀ z ∈ zs, R z.1 z.2) → Paired R (zs.map Prod.fst) (zs.map Prod.snd)
  | [], _ => .nil
  | z :: zs, h => .cons (h z List.mem_cons_self) (zip_paired fun y hy => h y (List.mem_cons_of_mem _ hy))
theorem byK_map {α β : Type} (f : α → β) (zs : List α) (kz : List PyData) : byK (zs.map f) kz = (byK zs kz).map f := by
  unfold byK
  have e : (zs.map f).zip kz = (zs.zip kz).map (fun p => (f p.1, p.2)) := by
    rw [List.zip_map_left]
    rfl
  rw [e, ← PySem.W.sort_maps (r := PySem.W.dataLe false Prod.snd) (fun p : α × PyData => (f p.1, p.2)) (fun a _ b _ => rfl), List.map_map, List.map_map]
  rfl
theorem byK_paired {α β : Type} {R : α → β → Prop} {xs : List α} {ys : List β} (h : Paired R xs ys) (kz : List PyData) (hl : kz.length = xs.length) : Paired R (byK xs kz) (byK ys kz) := by
  obtain ⟨zs, rfl, rfl, h3⟩ := paired_zip h
  rw [byK_map, byK_map]
  refine zip_paired fun z hz => h3 z ?_
  unfold byK at hz
  obtain ⟨p, hp, rfl⟩ := List.mem_map.mp hz
  have hp' := (List.mergeSort_perm _ _).mem_iff.mp hp
  exact (List.of_mem_zip hp').1
theorem dataLe_trows {β : Type} (x : β → List Int) : PySem.W.dataLe false (fun b => .tuple ((x b).map .int)) = fun p q => decide (x p ≤ x q) := by
  funext p q
  show (!PySem.W.dataLt (.tuple ((x q).map .int)) (.tuple ((x p).map .int))) = _
  rw [PySem.W.dataLt_tuple]
  show (!PySem.W.rowLt ((x q).map .int) ((x p).map .int)) = _
  rw [PySem.W.dataLt_ints]
  by_cases h : x q < x p
  · have h' : ¬ x p ≤ x q := fun r => List.not_lt.mpr r h
    simp [h, h']
  · have h' : x p ≤ x q := List.not_lt.mp h
    simp [h, h']
/-- rows sorted by what they are turned about -/
theorem byK_turned {rows z : List (List Int)} (p : z.Perm rows) (s : z.Pairwise fun a b => a.reverse ≤ b.reverse) : byK rows (rows.map fun r => .tuple (r.reverse.map .int)) = z := by
  have e : byK rows (rows.map fun r => PyData.tuple (r.reverse.map .int)) = rows.mergeSort (fun a b => decide (a.reverse ≤ b.reverse)) := by
    unfold byK
    have e1 : rows.zip (rows.map fun r => PyData.tuple (r.reverse.map .int)) = rows.map fun r => (r, PyData.tuple (r.reverse.map .int)) := by
      have : ∀ l : List (List Int), l.zip (l.map fun r => PyData.tuple (r.reverse.map .int)) = l.map fun r => (r, PyData.tuple (r.reverse.map .int)) := by
        intro l
        induction l with
        | nil => rfl
        | cons r l ih => rw [List.map_cons, List.map_cons, List.zip_cons_cons, ih]
      exact this rows
    rw [e1, ← PySem.W.sort_maps (r := fun a b => decide (a.reverse ≤ b.reverse)) (s := PySem.W.dataLe false Prod.snd) (fun r : List Int => (r, PyData.tuple (r.reverse.map .int))) (fun a _ b _ => ?_), List.map_map]
    · show List.map (fun r => r) _ = _
      rw [List.map_id']
    · have := congrFun (congrFun (dataLe_trows (fun r : List Int => r.reverse)) a) b
      exact this.symm
  rw [e]
  have hs := List.pairwise_mergeSort (le := fun a b : List Int => decide (a.reverse ≤ b.reverse)) (fun a b c h1 h2 => by
    have h1' := of_decide_eq_true h1
    have h2' := of_decide_eq_true h2
    exact decide_eq_true (List.le_trans h1' h2')) (fun a b => by
    rcases List.le_total a.reverse b.reverse with h | h
    · simp [h]
    · simp [h]) rows
  refine List.Perm.eq_of_pairwise (le := fun a b : List Int => a.reverse ≤ b.reverse) (fun a b _ _ h1 h2 => ?_) (hs.imp fun h => of_decide_eq_true h) s ((List.mergeSort_perm _ _).trans p.symm)
  have := List.le_antisymm h1 h2
  rw [← List.reverse_reverse a, this, List.reverse_reverse]
theorem alike_ints : ∀ xs ys : List Int, PySem.W.alikeAll (xs.map .int) (ys.map .int) = true
  | [], ys => by cases ys <;> simp [PySem.W.alikeAll]
  | x :: xs, [] => by simp [PySem.W.alikeAll]
  | x :: xs, y :: ys => by
    rw [List.map_cons, List.map_cons]
    simp [PySem.W.alikeAll, PySem.W.alike, alike_ints xs ys]
end LB
end
section
set_option Elab.async false
set_option linter.all false
set_option maxRecDepth 100000
set_option maxHeartbeats 4000000
/-! == and != of any data of the walk, one side of few levels -/
namespace LB
open PySem PySem.Spec PyProof.Rows L2
mutual
theorem dp_plain {K : PySem.W.Frag} {H : Hp} : ∀ (d : PyData) {v : V}, Dp K H v d → d.plain = true
  | .none, _, _ => rfl
  | .bool _, _, _ => rfl
  | .int _, _, _ => rfl
  | .str _, _, _ => rfl
  | .list ds, _, h => by
    cases h with
    | lst _ ha => exact dpAll_plain ds ha
  | .tuple ds, _, h => by
    cases h with
    | tup _ ha => exact dpAll_plain ds ha
  | .dict _, _, h => by cases h
theorem dpAll_plain {K : PySem.W.Frag} {H : Hp} : ∀ (ds : List PyData) {vs : List V}, DpAll K H vs ds → PyData.plainAll ds = true
  | [], _, _ => rfl
  | d :: ds, _, h => by
    cases h with
    | cons h1 h2 =>
      show (d.plain && PyData.plainAll ds) = true
      rw [dp_plain d h1, dpAll_plain ds h2]
      rfl
end
section
variable {X : Cx}
def rEqP (K : PySem.W.Frag) : R2 := fun x y H Q => ∃ d e, Dp K H x d ∧ Dp K H y e ∧ min d.depth e.depth ≤ 16 ∧ Q (.bl (PyData.eqv d e)) H
def rNeP (K : PySem.W.Frag) : R2 := fun x y H Q => ∃ d e, Dp K H x d ∧ Dp K H y e ∧ min d.depth e.depth ≤ 16 ∧ Q (.bl (!PyData.eqv d e)) H
theorem op_eqP (hu : X.A.units + 16 < cLine) : OpR X (compareOp .Eq) (rEqP X.K) := by
  intro pins s σ H x y v u Q I rx ry h
  obtain ⟨d, e, hd, he, hm, q⟩ := h
  obtain ⟨as, r1⟩ := Dp.reads I d x v hd rx
  obtain ⟨bs, r2⟩ := Dp.reads I e y u he ry
  exact SeqAt.eq_plain r1 r2 (dp_plain d hd) (dp_plain e he) (by omega) ⟨.bl _, H, I, rfl, q⟩
theorem op_neP (hu : X.A.units + 16 < cLine) : OpR X (compareOp .NotEq) (rNeP X.K) := by
  intro pins s σ H x y v u Q I rx ry h
  obtain ⟨d, e, hd, he, hm, q⟩ := h
  obtain ⟨as, r1⟩ := Dp.reads I d x v hd rx
  obtain ⟨bs, r2⟩ := Dp.reads I e y u he ry
  exact SeqAt.rcNe_plain r1 r2 (dp_plain d hd) (dp_plain e he) (by omega) _ _ _ _ ⟨.bl _, H, I, rfl, q⟩
end
theorem eqv_lnil (ds : List PyData) : PyData.eqv (.list ds) (.list []) = ds.isEmpty := by
  cases ds <;> rfl
theorem eqv_tnil (ds : List PyData) : PyData.eqv (.tuple ds) (.tuple []) = ds.isEmpty := by
  cases ds <;> rfl
theorem min_lnil (d : PyData) : min d.depth (PyData.list []).depth ≤ 16 := Nat.le_trans (Nat.min_le_right _ _) (by decide)
theorem min_tnil (d : PyData) : min d.depth (PyData.tuple []).depth ≤ 16 := Nat.le_trans (Nat.min_le_right _ _) (by decide)
end LB
end
section
set_option Elab.async false
set_option linter.all false
set_option maxRecDepth 100000
set_option maxHeartbeats 4000000
/-! a list walked while an exception is handled -/
namespace LB
open PySem PySem.Spec PyProof.Rows HotX
section
variable {prog : Program} {w : World} {A : Around} {E : Value → Shared → Prop} {s : Shared}
theorem pyNext_list_end_hot {it l x1 : Addr} {i : Nat} {items : Array Value} {Q : Option Value → Shared → Prop} (hot : HotAt A x1 s.heap) (hne : x1 ≠ it)
    (hit : s.heap.IsListIter it l i) (hl : s.heap.IsList l items) (hx : items[i]? = none)
    (hQ : ∀ h', Heap.ExtBut it s.heap h' → Q none { s with heap := h' }) : wpAny (model prog w) A (pyNext (.ref it)) Q E s := by
  obtain ⟨o, ho, hc, hd⟩ := id hit
  obtain ⟨ol, hol, _, nl, hdl⟩ := hl
  obtain ⟨hh, o1, vs1, h1, d1, c1⟩ := hot
  unfold pyNext
  refine wpAny_bind (wpAny_attempt (wpAny_callSpecial?_slot (name := Str.ofString "__next__") hit.typeIs slot_listiter_next
    (wpAny_call_entry slot_listiter_next hit.typeIs entry_listiter_next ?_ (args_listiter_next _))))
  show wpAny _ _ (field (.ref it) 0 >>= _) _ _ s
  refine wpAny_bind (wpAny_field ho hd (x := .ref l) rfl ?_)
  show wpAny _ _ (if (Value.ref l == Value.none) = true then _ else _) _ _ s
  rw [if_neg (show ¬ ((Value.ref l == Value.none) = true) from Bool.false_ne_true)]
  show wpAny _ _ (field (.ref it) 1 >>= _) _ _ s
  refine wpAny_bind (wpAny_field ho hd (x := .int i 0) rfl ?_)
  show wpAny _ _ (seqItems? (.ref l) >>= _) _ _ s
  refine wpAny_bind (wpAny_seqItems hol hdl ?_)
  simp only [Int.toNat_natCast, hx]
  refine wpAny_bind (wpAny_rule (wpAny_bind (wpAny_setField ho hd (by simp) ?_)))
  show wpAny _ _ (newExc (.type "StopIteration") [] >>= _) _ _ _
  refine wpAny_bind ?_
  simp only [newExc, newTuple]
  refine wpAny_bind (wpAny_newObj_type ?_ (by size_fits))
  refine wpAny_bind (m := firstArgMember _ _) (wpAny_of_eq (a := Value.none) (by first | rfl | (simp only [firstArgMember]; rfl)) ?_)
  refine wpAny_newObj_type ?_ (by size_fits)
  have g1 : (s.heap.update it (Obj.mapFields fun x => x.setIfInBounds 0 Value.none)).get? x1 = some o1 := by rw [Heap.get?_update_other _ _ hne.symm]; exact h1
  refine raiseNew_hot ⟨hh, o1, vs1, Heap.get?_push_of_some _ (Heap.get?_push_of_some _ g1), d1, c1⟩ (Nat.ne_of_lt (Heap.lt_size (Heap.get?_push_of_some _ g1))) (Heap.get?_push_size _ rfl) rfl (by first | (simp; done) | (simp; omega) | (simp only [Array.size_append]; simp; omega)) ?_
  refine wpAny_bind (wpAny_isInstance (T := "StopIteration") (b := true) ⟨_, Heap.get?_update_self _ (Heap.get?_push_size _ rfl) rfl, rfl⟩ isSubtype_stop ?_)
  refine wpAny_pure (hQ _ fun b o n e => ?_)
  have e2 : (s.heap.update it (Obj.mapFields fun x => x.setIfInBounds 0 Value.none)).get? b = some o := by
    rw [Heap.get?_update_other _ _ n.symm]
    exact e
  rw [Heap.get?_update_other _ _ (Nat.ne_of_gt (Heap.lt_size (Heap.get?_push_of_some _ e2)))]
  exact Heap.get?_push_of_some _ (Heap.get?_push_of_some _ e2)
end
section
open L2 L2H
theorem turn_listH {P : Program} {w : World} {K : PySem.W.Frag} {tg : Expr} (a it : Addr) : TurnH P w K tg (Itl K a) [it] it (fun i h => h.IsListIter it a i) where
  mem := (turn_list (P := P) (w := w) (K := K) (tg := tg) a it).mem
  obj := (turn_list (P := P) (w := w) (K := K) (tg := tg) a it).obj
  keep := (turn_list (P := P) (w := w) (K := K) (tg := tg) a it).keep
  item := by
    intro X hP hw hK hc i pins s σ H E I hf st hg
    subst hP hw hK
    obtain ⟨xs, x, hq, hx⟩ := hg
    obtain ⟨its, rv, p, hz⟩ := I.list hq
    obtain ⟨u, hu, ru⟩ := rv.get hx
    obtain ⟨f0, f1, f2, f3, f4, f5⟩ := hf it (by simp)
    refine wpAny_pyNext_list_item st p.isList (x := u) (by simpa using hu) fun h' st' sb => ?_
    have I1 : Inv X pins σ H { s with heap := h' } := I.turned (t' := s.toks) (fun b o hb e => (sb.2 b hb).trans e) f0 f1 f3 f4 f5
    obtain ⟨o, e, c, d⟩ := id st'
    exact ⟨u, rfl, go_of (s := { s with heap := h' }) e c d (by decide) ⟨x, H, I1, ru, ⟨rfl, fun ys hy => by rw [I.list_inj hy hq]; exact hx⟩, st', fun b hb => (hf b hb).1⟩⟩
  done := by
    intro X hP hw hK hc i pins s σ H E I hf st hg
    subst hP hw hK
    obtain ⟨xs, hq, hx⟩ := hg
    obtain ⟨its, rv, p, hz⟩ := I.list hq
    obtain ⟨f0, f1, f2, f3, f4, f5⟩ := hf it (by simp)
    have hl := rv.length
    obtain ⟨q, ⟨hh, vs, hv, h2⟩, hq2⟩ := hc
    have hot : HotAt X.A q.1 s.heap := ⟨hh, q.2, vs, (I.pin q (List.mem_append_left _ hq2)).1, hv, h2⟩
    exact pyNext_list_end_hot hot (f5 q (List.mem_append_left _ hq2)) st p.isList (by simp; omega) fun h' eb => ⟨rfl, I.turned (t' := s.toks) (fun b o hb e => eb b o hb e) f0 f1 f3 f4 f5⟩
  self := (turn_list (P := P) (w := w) (K := K) (tg := tg) a it).self
theorem pi_listH {X : Cx} {tg l : Expr} {tl : TE} (hl : PE X l tl) : PIH X tg l (iList X.K tl) := by
  refine ⟨fun pins s σ H R I h => ?_⟩
  refine thn (hl.run pins s σ H _ I h) fun v s1 ⟨x, H1, I1, r1, q1⟩ => ?_
  obtain ⟨a, e, ⟨xs, hq⟩, q⟩ := q1
  subst e
  cases r1
  obtain ⟨its, rv, p, hz⟩ := I1.list hq
  refine wpAny_pyIter_list p.isList ?_
  refine ⟨s1.heap.objs.size, [s1.heap.objs.size], _, _, H1, rfl, I1.kept (t' := s1.toks) fun b o e => Heap.get?_push_of_some _ e, turn_listH a _, ⟨_, Heap.get?_push_size _ rfl, rfl, rfl⟩, fun b hb => ?_, q⟩
  have e : b = s1.heap.objs.size := by simpa using hb
  subst e
  exact I1.fpOk (Nat.le_refl _) (I1.hok.fresh (Nat.le_refl _))
end
end LB
end
section
set_option Elab.async false
set_option linter.all false
set_option maxRecDepth 100000
set_option maxHeartbeats 4000000
/-! a list's comprehension while an exception is handled (the walk of HandS.Comp's, the caught object kept in sight) -/
namespace LB
open PySem PySem.Spec PyProof.Rows HotX L2 L2H
/-- the block of a comprehension in a suite: as Cx.blk, the kept objects stay kept -/
abbrev Cx.blkP (X : Cx) (s : Shared) (H : Hp) (scope : Scope) (cenv : Env) (fp : List Addr) : Cx := { X.blk s H scope cenv fp with pn := X.pn }
section
variable {X : Cx} {pins : List (Addr × Obj)} {σ : L2.St} {H : Hp} {s : Shared}
theorem block_startP {scope : Scope} {own : List (Str × Nat)} {fp : List Addr} (hc : HotC X) (I : Inv X pins σ H s) (ok : BlkOk X.N X.env.scope scope own) (hN : X.N.Nodup) (hfp : ∀ b ∈ fp, FpOk X pins H b ∧ b < s.heap.objs.size) :
    Inv (Cx.blkP X s H scope (compEnvC scope (cellsFrom (s.heap.objs.size + 1) scope.names (cloFrom X.env.cells scope.names [])) s.heap.objs.size X.env) fp) [] (wipe σ (own.map (·.2))) H { s with heap := pushCells (s.heap.push { cls := .type "dict", data := .dict #[] }) scope.names } := by
  have B := block_start I ok hN hfp
  refine ⟨⟨B.ok.mod, B.ok.kind, B.ok.glob, B.ok.blt, B.ok.above, B.ok.inj, B.ok.has, B.ok.cab, B.ok.hd, B.ok.frames, B.ok.stk, B.ok.exf, B.ok.bs, B.ok.bsz, B.ok.noex, B.ok.exfs, B.ok.funs, B.ok.frf⟩, B.os, B.bare, B.base, B.loc, B.cell, B.free, B.freeC, fun p hp => ?_, B.hok, B.len⟩
  have hp : p ∈ X.pn ++ ([] : List (Addr × Obj)) := hp
  rw [List.append_nil] at hp
  have P1 := I.pin p (List.mem_append_left _ hp)
  refine ⟨pushCells_keeps _ _ _ _ (Heap.get?_push_of_some _ P1.1), P1.2.1, Nat.ne_of_lt (Heap.lt_size P1.1), fun hm => (List.mem_cons.mp (I.stkSub p.1 hm)).elim P1.2.2.1 P1.2.2.2.1, P1.2.2.2.2⟩
end
section
variable {X : Cx}
theorem lc_coreH {pins : List (Addr × Obj)} {s : Shared} {σ : L2.St} {H : Hp} {Q : VK} {elt tg iter : Expr} {ifs : List Expr} {scope : Scope} {own : List (Str × Nat)} {pos pos' : Pos} {wi : TI} {g : TG} {tt : TT} {te : TE} {use : Option (Value → Sem Unit)} {Qf : Value → Shared → Prop}
    (hc : HotC X) (hN : X.N.Nodup) (I : Inv X pins σ H s) (hi : PIH X tg iter wi) (ok : BlkOk X.N X.env.scope scope own)
    (hg : ∀ (s : Shared) (H : Hp) (C : Addr) (cl : List (Str × Addr)) (fp : List Addr), PG (Cx.blkP X s H scope (compEnvC scope cl C X.env) fp) tg g) (ht : ∀ (s : Shared) (H : Hp) (C : Addr) (cl : List (Str × Addr)) (fp : List Addr), PTs (Cx.blkP X s H scope (compEnvC scope cl C X.env) fp) ifs tt)
    (he : ∀ (s : Shared) (H : Hp) (C : Addr) (cl : List (Str × Addr)) (fp : List Addr), PE (Cx.blkP X s H scope (compEnvC scope cl C X.env) fp) elt te) (hs : ∀ x, foldedSetIterable iter X.env x = pure x)
    (h : tLc wi g tt te (own.map (·.2)) σ H Q)
    (hRR : ∀ D C s' m H', Inv X pins σ H' s' → Q (.ref D) H' → s'.heap.Ns C m → FpOk X pins H' C → compPost (model X.prog X.w) X.A X.xe use Qf (.ref D) C (.ok .next) s') :
    wpAny (model X.prog X.w) X.A (comprehension (.ListComp elt [⟨tg, iter, ifs, 0⟩] scope pos) scope X.env pos' (newList []) false (eval iter X.env) use) Qf X.xe s := by
  have hfree : ∀ y ∈ scope.names, y.2 = .free → ∃ c, X.env.cells.lookup y.1 = some c := fun y hy e => by
    rcases ok.free y hy e with k | k
    · exact I.ok.has _ (.inl k)
    · exact I.ok.has _ (.inr k)
  refine wpAny_comprehension_free (use := use) rfl hs (closure_ok hfree) ok.kind (fun y hy e => by rw [ok.uniq y hy, e])
    (thn (hi.run pins s σ H _ I h) fun xv s1 hx => thn hx fun itv s2 h2 => ?_)
  obtain ⟨it, fp, tn, J, H2, e, I2, T, st2, f2, q⟩ := h2
  subst e
  refine wpAny_newObj_type (newEnv_comp ?_) (by show 0 ≤ sizeLine; decide)
  generalize hD : s2.heap.objs.size = D
  have hDn : H2 D = none := I2.hok.fresh (Nat.le_of_eq hD)
  obtain ⟨W, ⟨m0, w0⟩, turn⟩ := q D hDn
  -- the new list
  generalize hs3 : ({ s2 with heap := s2.heap.push { cls := .type "list", data := .seq ([] : List Value).toArray } } : Shared) = s3
  have I3 : Inv X pins σ (upd H2 D (.lst [])) s3 := by
    rw [← hs3]
    refine I2.laid (t' := s2.toks) (fun b o e => Heap.get?_push_of_some _ e) (Nat.le_of_eq hD) ⟨Nat.zero_le _, [], 0, .nil, ?_⟩
    rw [← hD]
    exact Heap.get?_push_size _ rfl
  have h3 : s3.heap = s2.heap.push { cls := .type "list", data := .seq ([] : List Value).toArray } := by rw [← hs3]
  have sz : ∀ b ∈ fp, b < s2.heap.objs.size := fun b hb => by
    obtain ⟨o, e, _⟩ := T.obj _ _ st2 b hb
    exact Heap.lt_size e
  have f3 : ∀ b ∈ fp, FpOk X pins (upd H2 D (.lst [])) b ∧ b < s3.heap.objs.size := fun b hb => by
    have hlt := sz b hb
    refine ⟨⟨?_, (f2 b hb).2⟩, by rw [h3, Heap.size_push]; exact Nat.lt_succ_of_lt hlt⟩
    rw [upd_ne (by rw [← hD]; exact Nat.ne_of_lt hlt)]
    exact (f2 b hb).1
  have st3 : tn 0 s3.heap := T.keep _ _ _ st2 fun b _ o e => by rw [h3]; exact Heap.get?_push_of_some _ e
  have I4 := block_startP hc I3 ok hN f3
  have pg := hg s3 (upd H2 D (.lst [])) s3.heap.objs.size (cellsFrom (s3.heap.objs.size + 1) scope.names (cloFrom X.env.cells scope.names [])) fp
  have pt := ht s3 (upd H2 D (.lst [])) s3.heap.objs.size (cellsFrom (s3.heap.objs.size + 1) scope.names (cloFrom X.env.cells scope.names [])) fp
  have pe := he s3 (upd H2 D (.lst [])) s3.heap.objs.size (cellsFrom (s3.heap.objs.size + 1) scope.names (cloFrom X.env.cells scope.names [])) fp
  show codeAny _ _ (.compStart (.ListComp elt [⟨tg, iter, ifs, 0⟩] scope pos) 0 (.ref it) (.ref D) (compEnvC scope (cellsFrom (s3.heap.objs.size + 1) scope.names (cloFrom X.env.cells scope.names [])) s3.heap.objs.size X.env)) (compPost (model X.prog X.w) X.A X.xe use Qf (.ref D) s3.heap.objs.size) { s3 with heap := pushCells (s3.heap.push { cls := .type "dict", data := .dict #[] }) scope.names }
  have nfp : ∀ b ∈ fp, (upd H2 D (.lst [])) b = none := fun b hb => (f3 b hb).1.1
  generalize hce : compEnvC scope (cellsFrom (s3.heap.objs.size + 1) scope.names (cloFrom X.env.cells scope.names [])) s3.heap.objs.size X.env = ce at I4 pg pt pe ⊢
  have cL : ce.locals = s3.heap.objs.size := by subst hce; rfl
  generalize hH3 : upd H2 D (.lst []) = H3 at I3 I4 pg pt pe w0 nfp f3
  generalize hs4 : ({ s3 with heap := pushCells (s3.heap.push { cls := .type "dict", data := .dict #[] }) scope.names } : Shared) = s4 at I4 ⊢
  have st4 : tn 0 s4.heap := T.keep _ _ _ st3 fun b _ o e => by rw [← hs4]; exact pushCells_keeps _ _ _ _ (Heap.get?_push_of_some _ e)
  have stat : ∀ {σ' : L2.St} {H' : Hp} {s' : Shared}, Inv (Cx.blkP X s3 H3 scope ce fp) [] σ' H' s' → (∀ b ∈ fp, H' b = none) → ∀ b ∈ fp, FpOk (Cx.blkP X s3 H3 scope ce fp) [] H' b := fun {σ' H' s'} I' hn b hb =>
    ⟨hn b hb, (I'.ok.exf b hb).1, I'.ok.exfs b hb, .inl hb, fun x c e => (I'.ok.exf b hb).2 x c e, fun p hp => (f3 b hb).1.2.2.2.2.2 p (by have z : p ∈ X.pn ++ ([] : List (Addr × Obj)) := hp; rw [List.append_nil] at z; exact List.mem_append_left _ z)⟩
  have hcB : HotC (Cx.blkP X s3 H3 scope ce fp) := hc
  have loop : codeAny (model X.prog X.w) X.A (.compLoop (.ListComp elt [⟨tg, iter, ifs, 0⟩] scope pos) 0 (.ref it) (.ref D) ce) (compPost (model X.prog X.w) X.A X.xe use Qf (.ref D) s3.heap.objs.size) s4 := by
    refine compLoop_any (fun n s' => ∃ i H', Inv (Cx.blkP X s3 H3 scope ce fp) [] (wipe σ (own.map (·.2))) H' s' ∧ tn i s'.heap ∧ (∀ b ∈ fp, H' b = none) ∧ W i n H') ?_ m0 ⟨0, H3, I4, st4, nfp, w0⟩
    rintro n s5 ⟨i, H5, I5, st5, n5, w5⟩
    rcases turn i n H5 w5 with ⟨stop, qq⟩ | ⟨go, Nx, hNx, step⟩
    · have td := T.done (Cx.blkP X s3 H3 scope ce fp) rfl rfl rfl hcB i [] s5 _ H5 (fun _ _ => False) I5 (stat I5 n5) st5 stop
      refine thnF td fun r s6 ⟨hr, I6⟩ => ?_
      subst hr
      -- back in the def's context
      have I7 : Inv X pins σ H5 s6 := I3.call' (ch := fp) I6.os I6.base I6.hok I6.bare fun b hb => ⟨(f3 b hb).1.2.2.2.1, (f3 b hb).1.2.1, (f3 b hb).1.2.2.2.2.1, (f3 b hb).1.2.2.2.2.2⟩
      have nC : H5 s3.heap.objs.size = none := by
        have z : H5 ce.locals = none := I6.free
        rw [cL] at z
        exact z
      obtain ⟨m, hn, _⟩ := I6.loc
      have hn : s6.heap.Ns ce.locals m := hn
      rw [cL] at hn
      exact hRR D s3.heap.objs.size s6 m H5 I7 qq hn (I3.fpOk (Nat.le_refl _) nC)
    · have ti := T.item (Cx.blkP X s3 H3 scope ce fp) rfl rfl rfl hcB i [] s5 _ H5 (fun _ _ => False) I5 (stat I5 n5) st5 go
      refine thnF ti fun r s6 ⟨u, hr, h6⟩ => ?_
      subst hr
      refine thnF h6 fun _ s7 ⟨x, H7, I7, r7, y7, st7, n7⟩ => ?_
      have I7' := I7.pinned (stat I7 n7) (T.obj _ _ st7)
      refine thnF (pg.run _ s7 _ H7 x u _ I7' r7 (step x H7 y7)) fun _ s8 ⟨σ8, H8, I8, hw8, q8⟩ => ?_
      refine thnF (pt.run _ s8 σ8 H8 _ I8 q8) fun b s9 ⟨H9, I9, q9⟩ => ?_
      -- the turn's end
      have fin : ∀ {s' : Shared} {H' : Hp}, Inv (Cx.blkP X s3 H3 scope ce fp) ([] ++ pinsAt fp s7.heap) σ8 H' s' → Nx H' → ∃ m, m < n ∧ ∃ i H', Inv (Cx.blkP X s3 H3 scope ce fp) [] (wipe σ (own.map (·.2))) H' s' ∧ tn i s'.heap ∧ (∀ b ∈ fp, H' b = none) ∧ W i m H' := fun {s' H'} I' nx => by
        obtain ⟨m', hm, w'⟩ := hNx H' nx
        have pin' : ∀ b ∈ fp, ∀ o, s7.heap.get? b = some o → s'.heap.get? b = some o ∧ H' b = none := fun b hb o e =>
          let z := I'.pin (b, o) (List.mem_append_right _ (List.mem_append_right _ (mem_pinsAt hb e)))
          ⟨z.1, z.2.1⟩
        have hl : (wipe σ (own.map (·.2))).length = σ8.length := by rw [← hw8, wipe_length]
        refine ⟨m', hm, i + 1, H', (I'.unpinned (pins := [])).weak hl (fun j v e => ?_), T.keep _ _ _ st7 fun b hb o e => (pin' b hb o e).1, fun b hb => ?_, w'⟩
        · rw [← hw8] at e
          exact (wipe_some e).1
        · obtain ⟨o, e, _⟩ := T.obj _ _ st7 b hb
          exact (pin' b hb o e).2
      cases b with
      | false =>
        simp only [Bool.false_eq_true, if_false] at q9 ⊢
        exact fin I9 q9
      | true =>
        simp only [if_true] at q9 ⊢
        refine thnF (pe.run _ s9 σ8 H9 _ I9 q9) fun z s10 ⟨yv, H10, I10, r10, acc, hD10, hz10, nx⟩ => ?_
        exact app_ok (X := Cx.blkP X s3 H3 scope ce fp) I10 hD10 hz10 r10 fun s11 I11 => fin I11 nx
  exact codeAny_compStart_list loop (T.self X.A 0 _ _ _ st4 loop)
/-- as a value, in an except suite -/
theorem pe_lcH {elt tg iter : Expr} {ifs : List Expr} {scope : Scope} {own : List (Str × Nat)} {pos : Pos} {wi : TI} {g : TG} {tt : TT} {te : TE} (hc : HotC X) (hN : X.N.Nodup) (hi : PIH X tg iter wi) (ok : BlkOk X.N X.env.scope scope own)
    (hg : ∀ (s : Shared) (H : Hp) (C : Addr) (cl : List (Str × Addr)) (fp : List Addr), PG (Cx.blkP X s H scope (compEnvC scope cl C X.env) fp) tg g) (ht : ∀ (s : Shared) (H : Hp) (C : Addr) (cl : List (Str × Addr)) (fp : List Addr), PTs (Cx.blkP X s H scope (compEnvC scope cl C X.env) fp) ifs tt)
    (he : ∀ (s : Shared) (H : Hp) (C : Addr) (cl : List (Str × Addr)) (fp : List Addr), PE (Cx.blkP X s H scope (compEnvC scope cl C X.env) fp) elt te) (hs : ∀ x, foldedSetIterable iter X.env x = pure x := by intro _; rfl) :
    PE X (.ListComp elt [⟨tg, iter, ifs, 0⟩] scope pos) (tLc wi g tt te (own.map (·.2))) := by
  refine ⟨fun pins s σ H Q I h => ?_⟩
  rw [eval_ListComp]
  refine lc_coreH hc hN I hi ok hg ht he hs h fun D C s' m H' I' q hn f => ⟨m, hn, fun h'' sb => ?_⟩
  obtain ⟨f0, f1, f2, f3, f4, f5⟩ := f
  exact ⟨.ref D, H', I'.turned (t' := s'.toks) (fun b o hb e => (sb.2 b hb).trans e) f0 f1 f3 f4 f5, rfl, q⟩
end
end LB
end
section
set_option Elab.async false
set_option linter.all false
set_option maxRecDepth 100000
set_option maxHeartbeats 4000000
/-! the library's walk of a lambda without parameters (HandS.Lambda), what it lets out kept with the context None -/
namespace LB
open PySem PySem.Spec PyProof.Rows L2 LamX
/-- the context of the lambda's body, entered at s from the frames outer -/
def lamCxN (X : Cx) (A : Around) (outer : List Env) (s : Shared) (H : Hp) (E : XK) (scope : Scope) (f c' : Addr) : Cx where
  prog := X.prog
  w := X.w
  K := X.K
  mg := X.mg
  base := X.base
  A := A.deeper (lamEnv X scope s.heap.objs.size f c')
  N := X.N
  s_0 := s
  H_0 := H
  env := lamEnv X scope s.heap.objs.size f c'
  outer := outer
  stack := lamEnv X scope s.heap.objs.size f c' :: outer
  ex := []
  fn := fun _ => false
  calm := true
  pn := []
  xe := fun e s' => wpAny (model X.prog X.w) (A.deeper (lamEnv X scope s.heap.objs.size f c')) (leaving (lamEnv X scope s.heap.objs.size f c') e) (fun _ s'' => L2N.CX X.prog X.w outer H s E e s'') (fun e' s'' => L2N.CX X.prog X.w outer H s E e' s'') s'
section
variable {X : Cx} {pins : List (Addr × Obj)} {σ : L2.St} {H HZ : Hp} {s s1 : Shared}
theorem lam_start2N {A : Around} {outer : List Env} {E : XK} {scope : Scope} {f c' : Addr} {h₁ : Heap} {tk : Nat} (I : Inv X pins σ H s) (L : LamS X.env.scope scope) (e0 : Env0 X.prog X.w X.K X.mg X.base A outer s1 HZ) (hd : A.handled = none)
    (un : Un (frs X.stack) [] H HZ s.heap s1.heap) (hns : h₁.Ns s1.heap.objs.size fun y => ([] : List (Str × Value)).reverse.lookup y) (kp : ∀ b o, s1.heap.get? b = some o → h₁.get? b = some o) :
    Inv (lamCxN X A outer s1 HZ E scope f c') [] σ HZ { s1 with heap := h₁, toks := tk } := by
  have hfree := L.has I.ok
  have cm : ∀ {y c}, (cloFrom X.env.cells scope.names []).lookup y = some c → X.env.cells.lookup y = some c := fun {y c} e => by
    rcases cloFrom_mem (PySem.mem_of_lookup e) with hm | ⟨h1, h2⟩
    · cases hm
    · obtain ⟨c1, hc⟩ := hfree _ h1 rfl
      have hc : X.env.cells.lookup y = some c1 := hc
      have e2 : c = c1 := by
        rw [h2, hc] <;> rfl
      rw [e2]
      exact hc
  have look : ∀ {y}, scope.names.lookup y = some .free → ∃ c, (cloFrom X.env.cells scope.names []).lookup y = some c := fun {y} hl => by
    have hy : (y, NameKind.free) ∈ scope.names := PySem.mem_of_lookup hl
    exact mem_lookup (cloFrom_has (cells := X.env.cells) (acc := []) hy)
  have cellK : ∀ {c : Addr} {v : Option Value}, H c = none → s.heap.IsCell c v → h₁.IsCell c v := fun {c v} n ⟨o, ho, hd⟩ => by
    obtain ⟨sl, q⟩ := un.any ho n (by simp)
    exact ⟨_, kp _ _ q, hd⟩
  have noA : ∀ b : Addr, b ∉ (lamCxN X A outer s1 HZ E scope f c').ex := fun b z => absurd (show b ∈ ([] : List Addr) from z) (by simp)
  refine ⟨⟨e0.mod, L.kind, rfl, rfl, Nat.le_refl _, fun y z c e1 e2 => I.ok.inj y z c (cm e1) (cm e2), fun y hy => ?_, fun y c z _ => ?_, fun _ => hd, Around.frames_deeper e0.frames, .inr ⟨rfl, rfl⟩, fun b z => absurd z (noA b), e0.bs, e0.bsz, fun b _ _ => noA b,
      fun b z => absurd z (noA b), e0.funs, e0.frf⟩,
    rfl, e0.bare, Un.kept kp, ⟨_, hns, fun i y v e1 e2 e3 => ?_⟩, fun y c e => ?_, e0.hok.fresh (Nat.le_refl _), fun y c e => ?_, fun q hq => absurd (show q ∈ ([] : List (Addr × Obj)) ++ [] from hq) (by simp), e0.hok.kept kp, I.len⟩
  · have hy : scope.names.lookup y = some .cell ∨ scope.names.lookup y = some .free := hy
    rcases hy with hy | hy
    · exact absurd rfl (L.own _ (PySem.mem_of_lookup hy)).2
    · exact look hy
  · have z : false = true := z
    cases z
  · have e3 : Vis scope y := e3
    rcases e3 with k | k | k
    · exact absurd rfl (L.own _ (PySem.mem_of_lookup k)).1
    · exact absurd rfl (L.own _ (PySem.mem_of_lookup k)).2
    · obtain ⟨m, hn, hl⟩ := I.loc
      have hvis : Vis X.env.scope y := (L.free _ (PySem.mem_of_lookup k) rfl).elim (fun k => .inr (.inl k)) (fun k => .inr (.inr k))
      obtain ⟨w', r, q⟩ := hl i y v e1 e2 hvis
      obtain ⟨c2, h2⟩ := look k
      refine ⟨w', r, .inr ⟨.inr k, c2, h2, ?_⟩⟩
      have c1 := cm h2
      rcases q with ⟨k', _⟩ | ⟨_, c3, e', z⟩
      · have k' : X.env.scope.names.lookup y = some .local := k'
        rcases L.free _ (PySem.mem_of_lookup k) rfl with k2 | k2 <;> rw [show X.env.scope.names.lookup y = _ from k2] at k' <;> cases k'
      · rw [c1] at e'
        cases e'
        exact cellK (I.freeC y _ c1) z
  · obtain ⟨w', z⟩ := I.cell y c (cm e)
    exact ⟨w', cellK (I.freeC y c (cm e)) z⟩
  · obtain ⟨v, o, ho, hd⟩ := I.cell y c (cm e)
    exact un.free c o ho (I.freeC y c (cm e)) (by simp)
/-- x(), in the def that got the lambda: Z is that def's context, entered at s -/
theorem pe_actN {CXg : CXT} {Eg : XK} {Ng : List Str} {qg : Str} {sg : Scope} {g f c' : Addr} {cdg pm ctv : Value} {params : Arguments} {body : Expr} {scope : Scope} {k i : Nat} {a : Str} {pn : List (Addr × Obj)} {xe : Value → Shared → Prop} {W : WX} {E : XK} {tb : TE} {p1 p2 : Pos}
    (I : Inv X pins σ H s) (L : LamS X.env.scope scope) (hf : s.heap.get? f = some (PySem.W.kla_obj "<lambda>" (X.env.qual ++ "<lambda>") params body scope (cloFrom X.env.cells scope.names []) pm c' ctv)) (hfn : H f = none) (hfr : f ∉ frs X.stack)
    (hbind : bindArgs (PySem.W.kla_fn "<lambda>" (X.env.qual ++ "<lambda>") params body scope (cloFrom X.env.cells scope.names []) pm (.ref c') ctv) ⟨[], []⟩ = pure [])
    (tk : L2N.Takes ((cxOf CXg X.prog X.w X.K X.mg X.base Ng qg sg g cdg X.A X.stack s H Eg).tr pn xe) W) (hW : ∀ cls d σ' H', E cls d H' → W cls d σ' H') (hr : Room (k + 1) (X.A.deeper (envOfC qg sg s.heap.objs.size g cdg)))
    (hbody : ∀ (A : Around) (outer : List Env) (s : Shared) (H : Hp), Room k (A.deeper (lamEnv X scope s.heap.objs.size f c')) → PE (lamCxN X A outer s H E scope f c') body tb)
    (hN : Ng[i]? = some a) (hv : Vis sg a) (hd : (a == ("__debug__" : Str)) = false := by decide) (hcd : (a == ("__classdict__" : Str)) = false := by decide) :
    PE ((cxOf CXg X.prog X.w X.K X.mg X.base Ng qg sg g cdg X.A X.stack s H Eg).tr pn xe) (.Call (.Name a p1) [] [] p2)
      (fun σZ HZ Q => σZ[i]? = some (some (.ref f)) ∧ HZ c' = some (CodeO c' (X.env.qual ++ "<lambda>")) ∧ tb σ HZ Q) := by
  refine ⟨fun pinsZ sZ σZ HZ Q IZ h => ?_⟩
  obtain ⟨hs, hc, ht⟩ := h
  refine wpAny_Call_Name_kw (thn ((pe_var (pos := p1) (i := i) hN hv hd hcd).run pinsZ sZ σZ HZ (fun v H1 => v = .ref f ∧ H1 = HZ) IZ ⟨.ref f, hs, rfl, rfl⟩) fun u s1 ⟨v, H1, I1, r1, q1⟩ => ?_)
  obtain ⟨ev, eH⟩ := q1
  subst ev
  rw [eH] at I1
  obtain rfl : u = Value.ref f := r1
  have of1 : s1.heap.get? f = some (PySem.W.kla_obj "<lambda>" (X.env.qual ++ "<lambda>") params body scope (cloFrom X.env.cells scope.names []) pm c' ctv) := I1.base.keep f _ hf hfn hfr (fun z => nomatch (show f ∈ ([] : List Addr) from z))
  refine PySem.W.callWith_F0 ⟨_, _, _, _, of1⟩ ?_
  have un : Un (frs X.stack) [] H HZ s.heap s1.heap := I1.base
  obtain ⟨⟨oc, vs, t, hoc, hdc, hvc⟩, _, _⟩ := I1.hok c' _ hc
  have rc : codeAny (model X.prog X.w) (X.A.deeper (envOfC qg sg s.heap.objs.size g cdg)) (.call (.ref f) ⟨[], []⟩) (CR (L2N.CX X.prog X.w) (envOfC qg sg s.heap.objs.size g cdg :: X.stack) X.prog X.w HZ s1 Q E) s1 := by
    refine PySem.W.kla_callFunE hr.depth of1 rfl L.co L.gen rfl ⟨c', oc, vs, t, rfl, hoc, hdc, hvc⟩ ?_
    rw [hbind]
    refine wpAny_pure (wpAny_newFunctionEnv (fun y hy => (L.own y hy).2) (fun y hy => absurd hy (by simp)) (fun h₁ hns hsb => ⟨I1.nolimit.fresh _ hsb, ?_⟩) L.kind)
    show codeAny _ _ (.expr body (lamEnv X scope s1.heap.objs.size f c')) _ _
    have kp : ∀ b o, s1.heap.get? b = some o → h₁.get? b = some o := fun b o e => hsb.extBut b o (Nat.ne_of_lt (Heap.lt_size e)) (Heap.get?_push_of_some _ e)
    have J : Inv (lamCxN X (X.A.deeper (envOfC qg sg s.heap.objs.size g cdg)) (envOfC qg sg s.heap.objs.size g cdg :: X.stack) s1 HZ E scope f c') [] σ HZ { s1 with heap := h₁, toks := s1.toks + ([] : List (Str × Value)).length } :=
      lam_start2N I L I1.env0 hr.hd un hns kp
    refine PySem.W.kla_codeExpr (wpAny_mono ((hbody _ _ s1 HZ (hr.deeper _)).run [] _ _ HZ Q J ht) (fun v s' hq => ?_) fun e s' hq => hq)
    obtain ⟨w', H', J', rv, q⟩ := hq
    exact ⟨w', H', J'.os, J'.bare, J'.base, J'.hok, rv, q⟩
  have hx : Passes (L2N.CX X.prog X.w) ((cxOf CXg X.prog X.w X.K X.mg X.base Ng qg sg g cdg X.A X.stack s H Eg).tr pn xe) E := L2N.passes_call tk hW
  refine wpAny_call (codeAny_mono rc fun r s' hq => ?_)
  cases r with
  | error e => exact hx pinsZ σZ HZ s1 e s' I1 hq
  | ok fl =>
    cases fl with
    | ret u => exact I1.after hq
    | next => exact False.elim hq
    | brk => exact False.elim hq
    | cont => exact False.elim hq
end
/-- the def that calls what it got: a calls it; TT: what it makes of the lambda's reading -/
def GivesToN (X : Cx) (Ng : List Str) (x : Str) (sg : Scope) (g : Addr) (cdg : Value) (bg : List Stmt) (a : Str) (q : Str) (TT : (XK → Hp → VK → Prop) → Hp → VK → Prop) : Prop :=
  ∀ (f c' : Addr) (s : Shared) (H : Hp) (Q : VK) (tl : XK → Hp → VK → Prop),
    (∀ (W : WX) (pn : List (Addr × Obj)) (xe : Value → Shared → Prop) (E : XK) (p1 p2 : Pos), L2N.Takes ((cxOf C8.CX0 X.prog X.w X.K X.mg X.base Ng x sg g cdg X.A X.stack s H C8.E0).tr pn xe) W → (∀ cls d σ' H', E cls d H' → W cls d σ' H') →
      PE ((cxOf C8.CX0 X.prog X.w X.K X.mg X.base Ng x sg g cdg X.A X.stack s H C8.E0).tr pn xe) (.Call (.Name a p1) [] [] p2) (fun σZ HZ Q => σZ[0]? = some (some (.ref f)) ∧ HZ c' = some (CodeO c' q) ∧ tl E HZ Q)) →
    H c' = some (CodeO c' q) → TT tl H Q →
    ∃ t, PSs (cxOf C8.CX0 X.prog X.w X.K X.mg X.base Ng x sg g cdg X.A X.stack s H C8.E0).nox bg t ∧ t { nx := fun _ H' => Q .non H', rt := Q } (L2.start Ng [.ref f]) H
section
variable {X : Cx}
/-- x(lambda: body) -/
theorem pe_lamcallN {T : List (Addr × Str)} {TT : (XK → Hp → VK → Prop) → Hp → VK → Prop} {x a : Str} {g c P : Addr} {k : Nat} {pg : Arguments} {bg : List Stmt} {sg : Scope} {dV kV doc pm cdv ct oc : Value} {an od : Option Addr} {osl : Array (Option Value)} {Ng : List Str}
    {params : Arguments} {body : Expr} {scope : Scope} {t : XK → TE} {p lpos pos : Pos} (hg : Gl X x) (hm : X.mg x = some (.ref g)) (hk : PySem.W.keepIn X.K (.ref g) = true)
    (lk : X.K.lookup g = some ⟨oc, od, .func (PySem.W.fnOf x x pg bg sg dV kV doc pm an cdv ct), osl⟩) (hcg : PySem.W.codeIn X.K cdv x = true) (hb : L2.Binds X.K (PySem.W.fnOf x x pg bg sg dV kV doc pm an cdv ct) [a] []) (Sg : FnScope Ng [a] sg) (hNg : Ng[0]? = some a) (hva : Vis sg a)
    (hG : GivesToN X Ng x sg g cdv bg a (X.env.qual ++ "<lambda>") TT)
    (TB : TabB X.base X.mg c P) (hcode : X.env.code = .ref c) (hmT : (P, X.env.qual ++ "<lambda>") ∈ T) (hu : ∀ p ∈ T, p.1 = P → p.2 = X.env.qual ++ "<lambda>") (hr : Room (k + 2) X.A) (L : LamS X.env.scope scope) (hdef : defaultsOf params X.env = ([], []))
    (hbind : ∀ (q : Str) (cl : List (Str × Addr)) (pm cv ctv : Value), bindArgs (PySem.W.kla_fn "<lambda>" q params body scope cl pm cv ctv) ⟨[], []⟩ = pure [])
    (hbody : ∀ (A : Around) (outer : List Env) (s : Shared) (H : Hp) (E : XK) (f c' : Addr), Room k (A.deeper (lamEnv X scope s.heap.objs.size f c')) → PE (lamCxN X A outer s H E scope f c') body (t E))
    (hdb : (x == ("__debug__" : Str)) = false := by decide) (hd : (a == ("__debug__" : Str)) = false := by decide) (hcd : (a == ("__classdict__" : Str)) = false := by decide) :
    PE X (.Call (.Name x p) [.Lambda params body scope lpos] [] pos) (tLam T TT t) := by
  refine ⟨fun pins s σ H Q I h => ?_⟩
  obtain ⟨hT, h⟩ := h
  refine wpAny_Call_Name_kw (ld_glob I hg hm ?_ hdb)
  refine PySem.W.callWith_K (h₀ := X.base) I.ok.mod.kin hk ?_ (by rfl) (by rfl)
  show wpAny _ _ (spliced ((false, eval (.Lambda params body scope lpos) X.env) :: backTo pos (starEach [] X.env))) _ _ s
  refine Calls.spliced_cons (lam_make2 I TB hcode hmT hu hT hdef (L.has I.ok) fun f c' pm' ctv H1 s' I1 eN T1 hf hfn hfr hco => ?_)
  refine Calls.spliced_nil ⟨I1.kIn, ?_⟩
  have rc : codeAny (model X.prog X.w) X.A (.call (.ref g) ⟨[.ref f], []⟩) (CR C8.CX0 X.stack X.prog X.w H1 s' Q C8.E0) s' := by
    refine run_ofS (N := Ng) (ps := [a]) (us := [.ref f]) (vs := [.ref f]) lk hcg Sg hr I1.env0 (hb s' [.ref f] I1.kIn rfl) (.cons rfl .nil) rfl fun hr' => ?_
    obtain ⟨t', ht', hq'⟩ := hG f c' s' H1 Q (fun E H' Q' => t E σ H' Q') (fun W pn xe E p1 p2 tk hW => pe_actN (i := 0) I1 L hf hfn hfr (hbind _ _ _ _ _) tk hW hr' (fun A outer s H hr2 => hbody A outer s H E f c' hr2) hNg hva hd hcd) hco (h H1 eN T1)
    exact ⟨t', ht'.nox, hq'⟩
  refine wpAny_call (codeAny_mono rc fun r s2 hq => ?_)
  cases r with
  | error e => exact (show False from hq).elim
  | ok fl =>
    cases fl with
    | ret u => exact I1.after hq
    | next => exact False.elim hq
    | brk => exact False.elim hq
    | cont => exact False.elim hq
end
end LB
end
section
set_option Elab.async false
set_option linter.all false
set_option maxRecDepth 100000
set_option maxHeartbeats 4000000
/-! ' '.join([row[0] for row in rows if row[1]]); an except suite's context -/
namespace LB
open PySem PySem.Spec PyProof.Rows L2 Evl
theorem suite_K {X : Cx} {a : Addr} {l : List (Addr × Obj)} : (X.suite a l).K = X.K := rfl
theorem hot_suite {X : Cx} {a : Addr} {oe : Obj} {cls : Value} {d : Option Addr} {pn : List (Addr × Obj)} (hz : L2N.Zn cls d oe) (hf : ∃ vs, oe.data = .fields vs) : L2H.HotC (X.suite a ((a, oe) :: pn)) := by
  obtain ⟨vs, hv⟩ := hf
  exact ⟨(a, oe), ⟨rfl, vs, hv, hz.2.2 vs hv⟩, List.mem_cons_self⟩
def rJoinL (K : PySem.W.Frag) : V → List V → Hp → VK → Prop := fun x xs H Q => ∃ a p, ∃ ys : List Str, x = .str a ∧ xs = [.ref p] ∧ (SqL K H p (ys.map V.str) ∨ SqT K H p (ys.map V.str)) ∧ (ys.map (·.length)).sum + ys.length * a.length ≤ 16777216 ∧ Q (.str (Txt.join a ys)) H
theorem sum_len : ∀ l : List Str, (∀ y ∈ l, y.length ≤ 1000) → (l.map (·.length)).sum ≤ 1000 * l.length
  | [], _ => by simp
  | y :: l, h => by
    have h1 := h y (by simp)
    have h2 := sum_len l fun z hz => h z (by simp [hz])
    simp only [List.map_cons, List.sum_cons, List.length_cons]
    omega
theorem join_rows {K : PySem.W.Frag} {i j : Nat} {σ : L2.St} {H : Hp} {L : Addr} (rows : List (Addr × Str × Bool)) {Q : VK} (hi : σ[i]? = some (some (.ref L))) (hj : j < σ.length) (hL : H L = some (.lst (rows.map fun r => .ref r.1)))
    (hr : ∀ r ∈ rows, H r.1 = some (.tup [.str r.2.1, .bl r.2.2])) (hn : rows.length ≤ 1000) (hsz : ∀ r ∈ rows, r.2.1.length ≤ 1000)
    (q : ∀ H', Ex H H' → Q (.str (Txt.join " " ((rows.filter (·.2.2)).map (·.2.1)))) H') :
    tM1 (rJoinL K) (tC (.str " ")) (tLc (iList K (tVar i)) (gName j) (tB (tOp (rIxT K) (tVar j) (tC (.int 1)))) (tOp (rIxT K) (tVar j) (tC (.int 0))) [j]) σ H Q := by
  refine ⟨⟨_, rfl⟩, _, hi, L, rfl, ⟨_, .inl (.inl hL)⟩, fun D hD => ?_⟩
  refine lc_list (Pv := fun k H' => Ex H H' ∧ H' D = some (.lst (((rows.take k).filter (·.2.2)).map fun r => V.str r.2.1))) (xs := rows.map fun r => V.ref r.1) ⟨Ex.mut (Ex.refl H) hD, by rw [upd_same]; rfl⟩ (fun k H' _ h => .inl (.inl (h.1 _ _ hL))) (fun k x H' hx h => ?_) (fun H' h => ?_)
  · obtain ⟨e, hd⟩ := h
    rw [List.getElem?_map] at hx
    cases hk : rows[k]? with
    | none => rw [hk] at hx; cases hx
    | some r =>
      rw [hk] at hx
      cases hx
      have hm : r ∈ rows := List.mem_of_getElem? hk
      have ha := e _ _ (hr r hm)
      have hlen : k < rows.length := (List.getElem?_eq_some_iff.mp hk).1
      have htk : rows.take (k + 1) = rows.take k ++ [r] := by rw [List.take_succ, hk]; rfl
      have hs : ((σ.set j none).set j (some (V.ref r.1)))[j]? = some (some (V.ref r.1)) := List.getElem?_set_self (by rw [List.length_set]; exact hj)
      refine ⟨?_, _, hs, r.1, [.str r.2.1, .bl r.2.2], 1, .bl r.2.2, rfl, rfl, .inl (.inl ha), rfl, r.2.2, rfl, ?_⟩
      · show ((σ.set j none).set j (some (V.ref r.1))).set j none = σ.set j none
        rw [List.set_set, List.set_set]
      · by_cases hb : r.2.2 = true
        · dsimp only
          rw [if_pos hb]
          refine ⟨_, hs, r.1, [.str r.2.1, .bl r.2.2], 0, .str r.2.1, rfl, rfl, .inl (.inl ha), rfl, _, hd, ?_, Ex.mut e hD, ?_⟩
          · have h1 := List.length_filter_le (fun r : Addr × Str × Bool => r.2.2) (rows.take k)
            have h2 := List.length_take_le k rows
            have h3 : sizeLine = sizeLine := rfl
            rw [List.length_map]
            rw [sizeLine_eq]
            omega
          · rw [upd_same, htk, List.filter_append, List.map_append]
            simp [hb]
        · dsimp only
          rw [if_neg hb]
          refine ⟨e, ?_⟩
          rw [hd, htk, List.filter_append, List.map_append]
          simp [hb]
  · obtain ⟨e, hd⟩ := h
    rw [List.length_map, List.take_length] at hd
    refine ⟨" ", D, (rows.filter (·.2.2)).map (·.2.1), rfl, rfl, .inl (.inl (.inl (by rw [hd, List.map_map]; rfl))), ?_, q H' e⟩
    have h1 := sum_len ((rows.filter (·.2.2)).map (·.2.1)) fun y hy => by
      obtain ⟨r, hr1, rfl⟩ := List.mem_map.mp hy
      exact hsz r (List.mem_filter.mp hr1).1
    have h2 := List.length_filter_le (fun r : Addr × Str × Bool => r.2.2) rows
    have h3 : (" " : Str).length = 1 := rfl
    rw [h3]
    rw [List.length_map] at h1 ⊢
    omega
end LB
end
section
set_option Elab.async false
set_option linter.all false
set_option maxRecDepth 100000
set_option maxHeartbeats 4000000
namespace K22
open PySem PySem.Spec PyProof.Rows L2 LB
/-! ### the text by places -/
def topS (i : Nat) : Stmt := PySem.Challenge.pw_bornandshut_k22_bars_made_counted_near.main.body.getD i (.Pass ⟨0, 0, 0, 0⟩)
abbrev s_init : Stmt := inClass (topS 1) 0
theorem sc_init : FnScope ["self", "what"] ["self", "what"] (defScope s_init) := ⟨rfl, rfl, rfl, by decide +kernel, rfl, by decide +kernel, by decide +kernel⟩
abbrev s_whole : Stmt := topS 6
theorem sc_whole : FnScope ["thing", "low", "high"] ["thing", "low", "high"] (defScope s_whole) := ⟨rfl, rfl, rfl, by decide +kernel, rfl, by decide +kernel, by decide +kernel⟩
abbrev s_asked_many : Stmt := topS 7
theorem sc_asked_many : FnScope ["thing", "low", "high"] ["thing", "low", "high"] (defScope s_asked_many) := ⟨rfl, rfl, rfl, by decide +kernel, rfl, by decide +kernel, by decide +kernel⟩
abbrev s_is_bar : Stmt := topS 12
theorem sc_is_bar : FnScope ["thing", "k", "b", "d"] ["thing"] (defScope s_is_bar) := ⟨rfl, rfl, rfl, by decide +kernel, rfl, by decide +kernel, by decide +kernel⟩
abbrev s_bars_wrong : Stmt := topS 13
theorem sc_bars_wrong : FnScope ["thing", "index", "bar"] ["thing"] (defScope s_bars_wrong) := ⟨rfl, rfl, rfl, by decide +kernel, rfl, by decide +kernel, by decide +kernel⟩
abbrev s_asked_bars : Stmt := topS 14
theorem sc_asked_bars : FnScope ["thing", "wrong"] ["thing"] (defScope s_asked_bars) := ⟨rfl, rfl, rfl, by decide +kernel, rfl, by decide +kernel, by decide +kernel⟩
abbrev s_made_bars : Stmt := topS 15
theorem sc_made_bars : FnScope ["thing", "k", "b", "d"] ["thing"] (defScope s_made_bars) := ⟨rfl, rfl, rfl, by decide +kernel, rfl, by decide +kernel, by decide +kernel⟩
abbrev s_cost : Stmt := topS 16
theorem sc_cost : FnScope ["one", "two", "births", "ends"] ["one", "two"] (defScope s_cost) := ⟨rfl, rfl, rfl, by decide +kernel, rfl, by decide +kernel, by decide +kernel⟩
abbrev s_count_on : Stmt := topS 17
theorem sc_count_on : FnScope ["bars", "k", "s", "t", "bar"] ["bars", "k", "s", "t"] (defScope s_count_on) := ⟨rfl, rfl, rfl, by decide +kernel, rfl, by decide +kernel, by decide +kernel⟩
abbrev s_later_bar : Stmt := topS 18
theorem sc_later_bar : FnScope ["bar", "x"] ["bar", "x"] (defScope s_later_bar) := ⟨rfl, rfl, rfl, by decide +kernel, rfl, by decide +kernel, by decide +kernel⟩
abbrev s_shifted : Stmt := topS 19
theorem sc_shifted : FnScope ["bars", "x", "found", "bar", "index"] ["bars", "x"] (defScope s_shifted) := ⟨rfl, rfl, rfl, by decide +kernel, rfl, by decide +kernel, by decide +kernel⟩
abbrev s_asked_wide : Stmt := topS 23
theorem sc_asked_wide : FnScope ["one", "two", "w"] ["one", "two", "w"] (defScope s_asked_wide) := ⟨rfl, rfl, rfl, by decide +kernel, rfl, by decide +kernel, by decide +kernel⟩
abbrev s_is_near : Stmt := topS 24
theorem sc_is_near : FnScope ["x", "y", "w", "much"] ["x", "y", "w"] (defScope s_is_near) := ⟨rfl, rfl, rfl, by decide +kernel, rfl, by decide +kernel, by decide +kernel⟩
abbrev s_near_of : Stmt := topS 25
theorem sc_near_of : FnScope ["one", "two", "w", "side", "i", "mine", "theirs", "j", "bar"] ["one", "two", "w", "side", "i"] (defScope s_near_of) := ⟨rfl, rfl, rfl, by decide +kernel, rfl, by decide +kernel, by decide +kernel⟩
abbrev s_law_pool : Stmt := topS 27
theorem sc_law_pool : FnScope ["script", "k", "cell", "big", "stirred"] ["script", "k"] (defScope s_law_pool) := ⟨rfl, rfl, rfl, by decide +kernel, rfl, by decide +kernel, by decide +kernel⟩
abbrev s_law_take : Stmt := topS 28
theorem sc_law_take : FnScope ["jar", "top", "drawn"] ["jar", "top"] (defScope s_law_take) := ⟨rfl, rfl, rfl, by decide +kernel, rfl, by decide +kernel, by decide +kernel⟩
abbrev s_law_one : Stmt := topS 29
theorem sc_law_one : FnScope ["jar", "things"] ["jar", "things"] (defScope s_law_one) := ⟨rfl, rfl, rfl, by decide +kernel, rfl, by decide +kernel, by decide +kernel⟩
abbrev s_law_odd_whole : Stmt := topS 30
theorem sc_law_odd_whole : FnScope ["jar", "low", "high"] ["jar", "low", "high"] (defScope s_law_odd_whole) := ⟨rfl, rfl, rfl, by decide +kernel, rfl, by decide +kernel, by decide +kernel⟩
abbrev s_law_bent : Stmt := topS 31
theorem sc_law_bent : FnScope ["jar", "thing", "way", "at", "part"] ["jar", "thing"] (defScope s_law_bent) := ⟨rfl, rfl, rfl, by decide +kernel, rfl, by decide +kernel, by decide +kernel⟩
abbrev s_law_is_whole : Stmt := topS 32
theorem sc_law_is_whole : FnScope ["thing"] ["thing"] (defScope s_law_is_whole) := ⟨rfl, rfl, rfl, by decide +kernel, rfl, by decide +kernel, by decide +kernel⟩
abbrev s_law_like : Stmt := topS 33
theorem sc_law_like : FnScope ["told", "owed", "key", "at"] ["told", "owed"] (defScope s_law_like) := ⟨rfl, rfl, rfl, by decide +kernel, rfl, by decide +kernel, by decide +kernel⟩
abbrev s_law_mt_is_bar : Stmt := topS 34
theorem sc_law_mt_is_bar : FnScope ["thing", "n", "k", "b", "d"] ["thing"] (defScope s_law_mt_is_bar) := ⟨rfl, rfl, rfl, by decide +kernel, rfl, by decide +kernel, by decide +kernel⟩
abbrev s_law_mt_fault : Stmt := topS 35
theorem sc_law_mt_fault : FnScope ["thing", "at"] ["thing"] (defScope s_law_mt_fault) := ⟨rfl, rfl, rfl, by decide +kernel, rfl, by decide +kernel, by decide +kernel⟩
abbrev s_law_mt_cost : Stmt := topS 36
theorem sc_law_mt_cost : FnScope ["one", "two", "much"] ["one", "two"] (defScope s_law_mt_cost) := ⟨rfl, rfl, rfl, by decide +kernel, rfl, by decide +kernel, by decide +kernel⟩
abbrev s_law_mt_near : Stmt := topS 37
theorem sc_law_mt_near : FnScope ["bar", "others", "w", "found", "at", "cost_v"] ["bar", "others", "w"] (defScope s_law_mt_near) := ⟨rfl, rfl, rfl, by decide +kernel, rfl, by decide +kernel, by decide +kernel⟩
abbrev s_law_mt_there : Stmt := topS 38
theorem sc_law_mt_there : FnScope ["bars_now", "k", "s", "t", "bar"] ["bars_now", "k", "s", "t"] (defScope s_law_mt_there) := ⟨rfl, rfl, rfl, by decide +kernel, rfl, by decide +kernel, by decide +kernel⟩
abbrev s_law_mt_bar_drawn : Stmt := topS 39
theorem sc_law_mt_bar_drawn : FnScope ["jar", "top", "dims", "b"] ["jar", "top", "dims"] (defScope s_law_mt_bar_drawn) := ⟨rfl, rfl, rfl, by decide +kernel, rfl, by decide +kernel, by decide +kernel⟩
abbrev s_law_mt_bars_drawn : Stmt := topS 40
theorem sc_law_mt_bars_drawn : FnScope ["jar", "many", "top", "dims", "found", "turn", "is_old"] ["jar", "many", "top", "dims"] (defScope s_law_mt_bars_drawn) := ⟨rfl, rfl, rfl, by decide +kernel, rfl, by decide +kernel, by decide +kernel⟩
abbrev s_law_mt_moved : Stmt := topS 41
theorem sc_law_mt_moved : FnScope ["jar", "bars_now", "top", "far", "found", "k", "b", "d"] ["jar", "bars_now", "top", "far"] (defScope s_law_mt_moved) := ⟨rfl, rfl, rfl, by decide +kernel, rfl, by decide +kernel, by decide +kernel⟩
abbrev s_law_bl_said : Stmt := topS 42
theorem sc_law_bl_said : FnScope ["asked", "refused_one", "rows", "row"] ["asked"] (defScope s_law_bl_said) := ⟨rfl, rfl, rfl, by decide +kernel, rfl, by decide +kernel, by decide +kernel⟩
abbrev s_law_bl_rows : Stmt := topS 43
theorem sc_law_bl_rows : FnScope ["jar", "top", "one", "two"] ["jar"] (defScope s_law_bl_rows) := ⟨rfl, rfl, rfl, by decide +kernel, rfl, by decide +kernel, by decide +kernel⟩
abbrev s_law_bl_made_right : Stmt := topS 44
theorem sc_law_bl_made_right : FnScope ["jar", "one", "some", "bar", "thing", "fault"] ["jar", "one"] (defScope s_law_bl_made_right) := ⟨rfl, rfl, rfl, by decide +kernel, rfl, by decide +kernel, by decide +kernel⟩
abbrev s_law_bl_counts_right : Stmt := topS 45
theorem sc_law_bl_counts_right : FnScope ["jar", "one", "top", "dates_now", "bar", "turn", "ends", "s", "t", "k", "x", "later", "b", "d", "bad", "at", "due"] ["jar", "one", "top"] (defScope s_law_bl_counts_right) := ⟨rfl, rfl, rfl, by decide +kernel, rfl, by decide +kernel, by decide +kernel⟩
abbrev s_law_bl_near_right : Stmt := topS 46
theorem sc_law_bl_near_right : FnScope ["jar", "one", "two", "side", "mine", "others", "i", "costs", "bar", "some", "cost_v", "w", "wide"] ["jar", "one", "two"] (defScope s_law_bl_near_right) := ⟨rfl, rfl, rfl, by decide +kernel, rfl, by decide +kernel, by decide +kernel⟩
abbrev s_law_bl_refused_right : Stmt := topS 47
theorem sc_law_bl_refused_right : FnScope ["jar", "one", "two", "bad", "far", "fault", "s", "none", "wide", "side", "told", "due"] ["jar", "one", "two"] (defScope s_law_bl_refused_right) := ⟨rfl, rfl, rfl, by decide +kernel, rfl, by decide +kernel, by decide +kernel⟩
abbrev s_law_bl_early : Stmt := topS 48
theorem sc_law_bl_early : FnScope ["s"] ["s"] (defScope s_law_bl_early) := ⟨rfl, rfl, rfl, by decide +kernel, rfl, by decide +kernel, by decide +kernel⟩
abbrev s_law : Stmt := topS 49
theorem sc_law : FnScope ["script", "k", "jar", "turn", "one", "two", "top"] ["script"] (defScope s_law) := ⟨rfl, rfl, rfl, by decide +kernel, rfl, by decide +kernel, by decide +kernel⟩

/-- names of the built-ins that the text leaves as they are -/
structure Bt (mg : Str → Option Value) : Prop where
  m_range : mg "range" = none
  m_len : mg "len" = none
  m_int : mg "int" = none
  m_bool : mg "bool" = none
  m_str : mg "str" = none
  m_dict : mg "dict" = none
  m_tuple : mg "tuple" = none
  m_list : mg "list" = none
  m_isinstance : mg "isinstance" = none
  m_max : mg "max" = none
  m_min : mg "min" = none
  m_sorted : mg "sorted" = none
  m_enumerate : mg "enumerate" = none
  m_abs : mg "abs" = none
  c_MOST_BARS : ∃ u, mg "MOST_BARS" = some u ∧ RelV (.int 80) u
  c_MOST_DATE : ∃ u, mg "MOST_DATE" = some u ∧ RelV (.int 4000000) u
  c_ENDLESS : ∃ u, mg "ENDLESS" = some u ∧ RelV (.int (-1)) u
  c_MOST_WIDE : ∃ u, mg "MOST_WIDE" = some u ∧ RelV (.int 10000000) u
  c_MOST_INDEX : ∃ u, mg "MOST_INDEX" = some u ∧ RelV (.int 79) u
end K22
end
section
set_option Elab.async false
set_option linter.all false
set_option maxRecDepth 100000
set_option maxHeartbeats 4000000
namespace K22
open PySem PySem.Spec PyProof.Rows L2 LB
local macro_rules | `(tactic| walk_at "rd") => `(tactic| repeat (first | refine ⟨_, rfl, ?_⟩ | refine ⟨_, _, rfl, rfl, ?_⟩ | refine ⟨_, _, rfl, ?_⟩))
theorem iteD {p : Prop} [Decidable p] {A B : Prop} (h1 : p → A) (h2 : ¬ p → B) : if decide p = true then A else B := by
  by_cases h : p
  · rw [decide_eq_true h]; exact iteT (h1 h)
  · rw [decide_eq_false h]; exact iteF (h2 h)
theorem iteN {p : Prop} [Decidable p] {A B : Prop} (h1 : p → B) (h2 : ¬ p → A) : if (!decide p) = true then A else B := by
  by_cases h : p
  · rw [decide_eq_true h]; exact iteF (h1 h)
  · rw [decide_eq_false h]; exact iteT (h2 h)
theorem iteB {c : Bool} {A B : Prop} (h1 : c = true → A) (h2 : c = false → B) : if c = true then A else B := by
  cases h : c
  · exact iteF (h2 h)
  · exact iteT (h1 h)
/-- a number from lo to hi that is no truth -/
def wholeB (d : PyData) (lo hi : Int) : Bool := match d with
  | .int i => decide (lo ≤ i) && decide (i ≤ hi)
  | _ => false
def spWhole (K : PySem.W.Frag) : Sp := fun vs H Q _ => ∃ (v : V) (d : PyData) (lo hi : Int), vs = [v, .int lo, .int hi] ∧ Dp K H v d ∧ Q (.bl (wholeB d lo hi)) H
def spAsked (K : PySem.W.Frag) (C : Addr) : Sp := fun vs H Q E => ∃ (v : V) (d : PyData) (lo hi : Int), vs = [v, .int lo, .int hi] ∧ Dp K H v d ∧ (wholeB d lo hi = true → Q .non H) ∧
  (wholeB d lo hi = false → ∀ x, H x = none → E (.ref C) (some x) (upd H x (.xd [("what", v)])))
section
variable {P : Program} {w : World} {K : PySem.W.Frag} {mg : Str → Option Value} {base : Heap}
theorem ok_init {fI : Addr} (R : RefI K mg s_init fI) : InitOk P w K mg base fI :=
  init_ok R sc_init fun f cdv A outer s H E => pss_cons (ps_expr (pe_veinit (by rfl) R.m_VE R.ve (pa_cons (pv 0) (pa_cons (pv 1) pa_nil)))) (pss_one (ps_ost (pv 0) (pv 1)))
theorem ok_whole (D : Dn K mg "whole" s_whole ["thing", "low", "high"]) (T : Bt mg) : Cal P w K mg base 1 "whole" (spWhole K) := by
  refine cal_of D sc_whole (fun vs H Q E h => ?_) (fun f cdv A outer s H vs Q E hr h => ?_)
  · obtain ⟨v, d, lo, hi, rfl, _⟩ := h
    rfl
  · obtain ⟨v, d, lo, hi, rfl, hd, q⟩ := h
    refine ⟨_, (pss_one (ps_ret (pe_and (pe_callB call_isi (by rfl) T.m_isinstance (by decide +kernel) (pa_cons (pv 0) (pa_cons (pe_bltn (v := .ty "int") (u := .type "int") (by rfl) T.m_int (by decide +kernel) rfl) pa_nil))) (pe_and (pe_not (pe_callB call_isi (by rfl) T.m_isinstance (by decide +kernel) (pa_cons (pv 0) (pa_cons (pe_bltn (v := .ty "bool") (u := .type "bool") (by rfl) T.m_bool (by decide +kernel) rfl) pa_nil)))) (pe_one (pe_chain op_le op_le (pv 1) (pv 0) (pv 2))))))), ?_⟩
    refine ⟨_, rfl, v, .ty "int", _, _, _, rfl, .ty "int", dp_ty hd, kit_int hd, _, rfl, ?_⟩
    cases hd with
    | int i =>
      refine iteT ⟨_, rfl, _, .ty "bool", _, _, _, rfl, .ty "bool", dp_ty (Dp.int i), kit_bool (Dp.int (H := H) (K := K) i), _, rfl, _, rfl, iteT ?_⟩
      refine ⟨_, rfl, _, rfl, _, _, rfl, rfl, _, rfl, iteD (fun c => ?_) (fun c => ?_)⟩
      · refine ⟨_, rfl, _, _, rfl, rfl, ?_⟩
        have e : wholeB (.int i) lo hi = decide (i ≤ hi) := by
          show (decide (lo ≤ i) && decide (i ≤ hi)) = _
          rw [decide_eq_true c, Bool.true_and]
        rw [e] at q
        exact q
      · have e : wholeB (.int i) lo hi = false := by
          show (decide (lo ≤ i) && decide (i ≤ hi)) = _
          rw [decide_eq_false c, Bool.false_and]
        rw [e] at q
        exact q
    | bl b =>
      refine iteT ⟨_, rfl, _, .ty "bool", _, _, _, rfl, .ty "bool", dp_ty (Dp.bl b), kit_bool (Dp.bl (H := H) (K := K) b), _, rfl, _, rfl, iteF ?_⟩
      exact q
    | non => exact iteF q
    | str x => exact iteF q
    | lst _ _ => exact iteF q
    | tup _ _ => exact iteF q
theorem ok_asked_many {C fI : Addr} (D : Dn K mg "asked_many" s_asked_many ["thing", "low", "high"]) (XB : XCl K mg "BadMany" C fI) (iI : InitOk P w K mg base fI) (f_whole : Cal P w K mg base 1 "whole" (spWhole K)) : CalX P w K mg base 3 "asked_many" (spAsked K C) := by
  refine calx_of D sc_asked_many (fun vs H Q E h => ?_) (fun f cdv A outer s H vs Q E hr h => ?_)
  · obtain ⟨v, d, lo, hi, rfl, _⟩ := h
    rfl
  · obtain ⟨v, d, lo, hi, rfl, hd, q1, q2⟩ := h
    refine ⟨_, (pss_one (ps_if (pt_not (pt_val (LB.pe_c f_whole hr (by decide) (by rfl) (pa_cons (pv 0) (pa_cons (pv 1) (pa_cons (pv 2) pa_nil)))))) (pss_one (ps_raiseX rfl (L2N.takes_of rfl rfl rfl rfl) XB iI hr (by decide) (by rfl) (pv 0))) pss_nil)), ?_⟩
    refine ⟨_, rfl, _, rfl, _, rfl, v, d, lo, hi, rfl, hd, _, rfl, ?_⟩
    cases hw : wholeB d lo hi with
    | true => exact iteF (q1 hw)
    | false => exact iteT ⟨_, rfl, mk_ref XB (q2 hw)⟩
end
end K22
end
section
set_option Elab.async false
set_option linter.all false
set_option maxRecDepth 100000
set_option maxHeartbeats 4000000
namespace K22
open PySem PySem.Spec PyProof.Rows L2 LB
local macro_rules | `(tactic| walk_at "rd") => `(tactic| repeat (first | refine ⟨_, rfl, ?_⟩ | refine ⟨_, _, rfl, rfl, ?_⟩ | refine ⟨_, _, rfl, ?_⟩))
/-! ### the law's helpers: the jar -/
def JarV (a b : Int) : Prop := 0 ≤ a ∧ 0 ≤ b ∧ b < 2147483647
def Jar (H : Hp) (j : Addr) : Prop := ∃ a b : Int, H j = some (.lst [.int a, .int b]) ∧ JarV a b
theorem Jar.some {H : Hp} {j : Addr} (h : Jar H j) : H j ≠ none := by
  obtain ⟨a, b, e, _⟩ := h
  rw [e]
  exact fun z => nomatch z
theorem free_back {S : List Addr} {H H' : Hp} {p : Addr} (b : But S H H') (hS : ∀ a ∈ S, H' a ≠ none) (h : H' p = none) : H p = none := by
  cases e : H p with
  | none => rfl
  | some o =>
    exfalso
    by_cases m : p ∈ S
    · exact hS p m h
    · rw [b p o m e] at h
      cases h
theorem Jar.free {H H' : Hp} {j p : Addr} (b : But [j] H H') (J : Jar H' j) (h : H' p = none) : H p = none :=
  free_back b (fun a m => by rw [List.mem_singleton.mp m]; exact J.some) h
def spTake : Sp := fun vs H Q _ => ∃ (j : Addr) (t : Int), vs = [.ref j, .int t] ∧ Jar H j ∧ 1 ≤ t ∧ t < 1073741824 ∧ ∀ (v : Nat) (H' : Hp), (v : Int) < t → Jar H' j → But [j] H H' → Q (.int v) H'
def spPool (K : PySem.W.Frag) : Sp := fun vs H Q _ => ∃ (s : Addr) (ns : List Int) (k : Nat), vs = [.ref s, .int (k : Nat)] ∧ SqL K H s (ns.map V.int) ∧ k ≤ 100 ∧ (k < ns.length ∨ ns = []) ∧
  ∀ (j : Addr) (H' : Hp), H j = none → Evl.Ex H H' → Jar H' j → Q (.ref j) H'
def SqA (K : PySem.W.Frag) (H : Hp) (p : Addr) (xs : List V) : Prop := SqL K H p xs ∨ SqT K H p xs
def spOne (K : PySem.W.Frag) : Sp := fun vs H Q _ => ∃ (j p : Addr) (xs : List V), vs = [.ref j, .ref p] ∧ Jar H j ∧ SqA K (cut [j] H) p xs ∧ 1 ≤ xs.length ∧ xs.length < 1073741824 ∧
  ∀ (i : Nat) (v : V) (H' : Hp), xs[i]? = some v → Jar H' j → But [j] H H' → Q v H'
theorem SqA.up {K : PySem.W.Frag} {H H' : Hp} {p : Addr} {xs : List V} (h : SqA K H p xs) (e : Evl.Ex H H') : SqA K H' p xs := h.elim (fun h => Or.inl (Evl.ex_l e h)) (fun h => Or.inr (Evl.ex_t e h))
section
variable {P : Program} {w : World} {K : PySem.W.Frag} {mg : Str → Option Value} {base : Heap}
theorem ok_take (D : Dn K mg "_law_take" s_law_take ["jar", "top"]) (T : Bt mg) : Cal P w K mg base 1 "_law_take" spTake := by
  refine cal_of D sc_law_take (fun vs H Q E h => ?_) (fun f cdv A outer s H vs Q E hr h => ?_)
  · obtain ⟨j, t, rfl, _⟩ := h
    rfl
  · obtain ⟨j, t, rfl, ⟨a, b, hj, ha, hb, hb2⟩, t1, t2, q⟩ := h
    refine ⟨_, (pss_cons (ps_if (pt_cmpR op_gt (pe_ix ix_list (pv 0) pe_int (fun _ _ => rfl)) pe_int (nomark _)) (pss_cons (ps_set (i := 2) sc_law_take.nd rfl (Or.inl rfl) (pe_op op_mod (pe_callTy call_int1 (by rfl) T.m_int (by decide +kernel) (pa_cons (pe_ix ix_list (pv 0) pe_int (fun _ _ => rfl)) pa_nil)) (pv 1)))
      (pss_cons (ps_asg (pe_op op_fdiv (pe_ix ix_list (pv 0) pe_int (fun _ _ => rfl)) (pv 1)) (pg_sub (pv 0) pe_int set_list))
      (pss_one (ps_ret (pv 2))))) pss_nil)
      (pss_cons (ps_asg (pe_op op_mod (pe_callTy call_int1 (by rfl) T.m_int (by decide +kernel) (pa_cons (pe_op op_add (pe_op op_mul (pe_ix ix_list (pv 0) pe_int (fun _ _ => rfl)) pe_int) pe_int) pa_nil)) pe_int) (pg_sub (pv 0) pe_int set_list))
      (pss_one (ps_ret (pe_op op_mod (pe_callTy call_int1 (by rfl) T.m_int (by decide +kernel) (pa_cons (pe_op op_fdiv (pe_op op_mod (pe_callTy call_int1 (by rfl) T.m_int (by decide +kernel) (pa_cons (pe_op op_mul (pe_ix ix_list (pv 0) pe_int (fun _ _ => rfl)) (pe_ix ix_list (pv 0) pe_int (fun _ _ => rfl))) pa_nil)) pe_int) pe_int) pa_nil)) (pv 1)))))), ?_⟩
    have g0 : atI [V.int a, V.int b] 0 = some (V.int a) := atI_nat (j := 0) rfl
    have S : SqL K H j [V.int a, V.int b] := Or.inl (Or.inl hj)
    refine ⟨_, rfl, j, _, _, _, rfl, rfl, S, g0, _, _, rfl, rfl, _, rfl, iteD (fun c => ?_) (fun c => ?_)⟩
    · -- the digits
      refine ⟨_, rfl, j, _, _, _, rfl, rfl, S, g0, Or.inl ⟨_, rfl, _, rfl, _, _, rfl, rfl, by omega, ?_⟩⟩
      refine ⟨_, rfl, j, _, _, _, rfl, rfl, S, g0, _, rfl, _, _, rfl, rfl, ⟨by omega, t2⟩, ?_⟩
      refine ⟨_, rfl, j, _, _, 0, rfl, rfl, hj, rfl, _, rfl, ?_⟩
      have h1 := Int.emod_nonneg a (show t ≠ 0 by omega)
      have h2 := Int.emod_lt_of_pos a (show 0 < t by omega)
      have e : (a % t) = ((a % t).toNat : Int) := by omega
      show Q (V.int (a % t)) _
      rw [e]
      refine q _ _ (by omega) ⟨_, _, upd_same, Int.ediv_nonneg ha (by omega), hb, hb2⟩ (But.put (by simp))
    · -- the number stirred
      have g1 : atI [V.int a, V.int b] 1 = some (V.int b) := atI_nat (j := 1) rfl
      refine ⟨_, rfl, j, _, _, _, rfl, rfl, S, g1, _, _, rfl, rfl, Or.inr ⟨by decide, by decide⟩, _, _, rfl, rfl, Or.inl ⟨_, rfl, _, _, rfl, rfl, (by show (0 : Int) < 2147483647; decide), ?_⟩⟩
      refine ⟨_, rfl, j, _, _, 1, rfl, rfl, hj, rfl, ?_⟩
      dsimp only
      have b1 := Int.emod_nonneg (b * 39373 + 7) (show (2147483647 : Int) ≠ 0 by decide)
      have b2 := Int.emod_lt_of_pos (b * 39373 + 7) (show (0 : Int) < 2147483647 by decide)
      generalize (b * 39373 + 7) % 2147483647 = b' at b1 b2 ⊢
      have g2 : atI [V.int a, V.int b'] 1 = some (V.int b') := atI_nat (j := 1) rfl
      have S2 : SqL K (upd H j (.lst ([V.int a, V.int b].set 1 (V.int b')))) j [V.int a, V.int b'] := Or.inl (Or.inl upd_same)
      refine ⟨_, rfl, j, _, _, _, rfl, rfl, S2, g2, _, rfl, j, _, _, _, rfl, rfl, S2, g2, _, _, rfl, rfl, Or.inl ⟨by omega, by omega⟩, Or.inl ⟨_, rfl, _, _, rfl, rfl, (by show (0 : Int) < 2147483629; decide), ?_⟩⟩
      refine ⟨_, _, rfl, rfl, ⟨by decide, by decide⟩, Or.inl ⟨_, rfl, _, rfl, _, _, rfl, rfl, by omega, ?_⟩⟩
      dsimp only
      generalize b' * b' % 2147483629 / 32 = c'
      have h1 := Int.emod_nonneg c' (show t ≠ 0 by omega)
      have h2 := Int.emod_lt_of_pos c' (show 0 < t by omega)
      have e : (c' % t) = ((c' % t).toNat : Int) := by omega
      rw [e]
      exact q _ _ (by omega) ⟨a, b', upd_same, ha, b1, b2⟩ (But.put (by simp))
theorem ok_pool (D : Dn K mg "_law_pool" s_law_pool ["script", "k"]) (T : Bt mg) : Cal P w K mg base 1 "_law_pool" (spPool K) := by
  refine cal_of D sc_law_pool (fun vs H Q E h => ?_) (fun f cdv A outer s H vs Q E hr h => ?_)
  · obtain ⟨s, ns, k, rfl, _⟩ := h
    rfl
  · obtain ⟨s, ns, k, rfl, S, hk, hkn, q⟩ := h
    refine ⟨_, (pss_cons (ps_set (i := 2) sc_law_pool.nd rfl (Or.inl rfl) pe_int)
      (Evl.pss_cut (ps_if (pt_cmpR op_lt (pv 1) (pe_callB call_len_seq (by rfl) T.m_len PySem.boot_len (pa_cons (pv 0) pa_nil)) (nomark _)) (pss_one (ps_set (i := 2) sc_law_pool.nd rfl (Or.inl rfl) (pe_ix ix_list (pv 0) (pv 1) (fun _ _ => rfl)))) (pss_one (ps_if (pt_cmpR (op_neD hr.units) (pv 0) (pe_lst pa_nil) (nomark _)) (pss_one (ps_set (i := 2) sc_law_pool.nd rfl (Or.inl rfl) (pe_ix ix_list (pv 0) pe_int (fun _ _ => rfl)))) pss_nil)))
      (pss_cons (ps_set (i := 3) sc_law_pool.nd rfl (Or.inl rfl) (pe_callB (call_max2 rfl) (by rfl) T.m_max (by decide +kernel) (pa_cons (pe_callTy call_int1 (by rfl) T.m_int (by decide +kernel) (pa_cons (pv 2) pa_nil)) (pa_cons (pe_callTy call_int1 (by rfl) T.m_int (by decide +kernel) (pa_cons (pe_op op_sub (pe_un un_neg pe_int) (pv 2)) pa_nil)) pa_nil))))
      (pss_cons (ps_set (i := 4) sc_law_pool.nd rfl (Or.inl rfl) (pe_op op_mod (pe_callTy call_int1 (by rfl) T.m_int (by decide +kernel) (pa_cons (pe_op op_mul (pe_op op_add (pe_op op_add (pe_op op_add (pe_op op_mod (pe_callTy call_int1 (by rfl) T.m_int (by decide +kernel) (pa_cons (pv 3) pa_nil)) pe_int) (pe_op op_mul (pe_op op_mul pe_int (pv 1)) (pv 1))) (pe_op op_mul pe_int (pv 1))) pe_int) pe_int) pa_nil)) pe_int))
      (pss_one (ps_ret (pe_lst (pa_cons (pe_op op_mul (pv 3) (pe_callTy call_int1 (by rfl) T.m_int (by decide +kernel) (pa_cons (pe_and (pe_cmpR op_ge (pv 3) (pe_op op_pow pe_int pe_int) (nomark _)) (pe_one (pe_cmpR op_lt (pv 1) (pe_callB call_len_seq (by rfl) T.m_len PySem.boot_len (pa_cons (pv 0) pa_nil)) (nomark _)))) pa_nil))) (pa_cons (pv 4) pa_nil))))))))), ?_⟩
    refine ⟨fun σ H' => ∃ c : Int, σ = [some (.ref s), some (.int (k : Nat)), some (.int c), none, none] ∧ Evl.Ex H H', ?_, ?_⟩
    · refine ⟨_, rfl, _, rfl, s, _, rfl, Or.inl S, _, _, rfl, rfl, _, rfl, iteD (fun c => ?_) (fun c => ?_)⟩
      · rw [List.length_map] at c
        have hk' : k < ns.length := by omega
        refine ⟨_, rfl, _, rfl, s, _, _, .int ns[k], rfl, rfl, S, atI_nat (by rw [List.getElem?_map, List.getElem?_eq_getElem hk']; rfl), ns[k], rfl, Evl.Ex.refl H⟩
      · rw [List.length_map] at c
        have e : ns = [] := by
          rcases hkn with h | h
          · omega
          · exact h
        subst e
        refine ⟨_, rfl, Nat.zero_le _, fun p hp => ⟨.list [], .list [], .lst (Evl.ex_l (Evl.Ex.new hp) S) .nil, .lst (Or.inl (Or.inl upd_same)) .nil, by decide, by decide, _, rfl, ?_⟩⟩
        exact ⟨0, rfl, Evl.Ex.new hp⟩
    · rintro σ H' ⟨c, rfl, e1⟩
      have S1 := Evl.ex_l e1 S
      refine ⟨_, rfl, Or.inl ⟨_, rfl, _, rfl, ?_⟩⟩
      walk_at "rd"
      refine Or.inl ⟨_, rfl, _, _, rfl, ?_⟩
      dsimp only
      generalize hbig : (if -1 - c > c then -1 - c else c) = big
      have b0 : 0 ≤ big := by
        split at hbig <;> omega
      refine ⟨_, rfl, Or.inl ⟨_, rfl, _, _, rfl, rfl, (by show (0 : Int) < 2147483629; decide), ?_⟩⟩
      refine ⟨_, rfl, _, _, rfl, rfl, Or.inl ⟨by decide, by decide⟩, _, rfl, _, _, rfl, rfl, Or.inr ⟨by omega, by omega⟩, _, _, rfl, rfl, _, rfl, _, _, rfl, rfl, Or.inl ⟨by decide, by decide⟩, _, _, rfl, rfl, _, _, rfl, rfl, _, _, rfl, rfl, Or.inr ⟨by decide, by decide⟩, Or.inl ⟨_, rfl, _, _, rfl, rfl, (by show (0 : Int) < 2147483647; decide), ?_⟩⟩
      dsimp only
      generalize hst : (big % 2147483629 + 7919 * (k : Int) * (k : Int) + 31 * (k : Int) + 17) * 48271 = st
      have s1 := Int.emod_nonneg st (show (2147483647 : Int) ≠ 0 by decide)
      have s2 := Int.emod_lt_of_pos st (show (0 : Int) < 2147483647 by decide)
      refine ⟨_, rfl, _, rfl, _, _, rfl, rfl, ⟨by decide, by decide, by decide⟩, _, _, rfl, rfl, _, rfl, ?_⟩
      have fin : ∀ f : Int, 0 ≤ f → f ≤ 1 → (∃ i j_1, V.int big = V.int i ∧ V.int f = V.int j_1 ∧ CMul i j_1 ∧ (tCons (tVar 4) tNil) [some (.ref s), some (.int (k : Nat)), some (.int c), some (.int big), some (.int (st % 2147483647))] H' fun xs H1 => (V.int (i * j_1) :: xs).length ≤ sizeLine ∧ ∀ p, H1 p = none → Q (.ref p) (upd H1 p (.lst (V.int (i * j_1) :: xs)))) := fun f f0 f1 => by
        refine ⟨big, f, rfl, rfl, Or.inr ⟨by omega, by omega⟩, _, rfl, (by show 2 ≤ sizeLine; decide), fun p hp => ?_⟩
        refine q p _ (Evl.fresh_back e1 hp) (e1.trans (Evl.Ex.new hp)) ⟨_, _, upd_same, Int.mul_nonneg b0 f0, s1, s2⟩
      refine iteD (fun c0 => ?_) (fun c0 => ?_)
      · refine ⟨_, rfl, _, rfl, s, _, rfl, Or.inl S1, _, _, rfl, rfl, Or.inr ⟨_, rfl, ?_⟩⟩
        refine fin _ ?_ ?_
        · split <;> omega
        · split <;> omega
      · exact Or.inr ⟨_, rfl, fin 0 (by omega) (by omega)⟩
theorem ok_one (D : Dn K mg "_law_one" s_law_one ["jar", "things"]) (T : Bt mg) (f_law_take : Cal P w K mg base 1 "_law_take" spTake) : Cal P w K mg base 2 "_law_one" (spOne K) := by
  refine cal_of D sc_law_one (fun vs H Q E h => ?_) (fun f cdv A outer s H vs Q E hr h => ?_)
  · obtain ⟨s, ns, k, rfl, _⟩ := h
    rfl
  · obtain ⟨j, p, xs, rfl, J, S, l1, l2, q⟩ := h
    refine ⟨_, (pss_one (ps_ret (pe_ix ix_seq (pv 1) (LB.pe_c f_law_take hr (by decide) (by rfl) (pa_cons (pv 0) (pa_cons (pe_callB call_len_seq (by rfl) T.m_len PySem.boot_len (pa_cons (pv 1) pa_nil)) pa_nil))) (fun _ _ => rfl)))), ?_⟩
    refine ⟨_, rfl, _, rfl, _, rfl, p, xs, rfl, S.up ex_cut, j, (xs.length : Nat), rfl, J, by omega, by omega, fun v H' hv J' b => ?_⟩
    have hv' : v < xs.length := by omega
    have hx : xs[v]? = some xs[v] := List.getElem?_eq_getElem hv'
    have S' : SqA K H' p xs := (S.up b.cut).up ex_cut
    rcases S' with S' | S'
    · exact Or.inl ⟨p, xs, _, _, rfl, rfl, S', atI_nat hx, q v _ H' hx J' b⟩
    · exact Or.inr (Or.inl ⟨p, xs, _, _, rfl, rfl, S', atI_nat hx, q v _ H' hx J' b⟩)
end
end K22
end
section
set_option Elab.async false
set_option linter.all false
set_option maxRecDepth 100000
set_option maxHeartbeats 4000000
namespace K22
open PySem PySem.Spec PyProof.Rows L2 LB
local macro_rules | `(tactic| walk_at "rd") => `(tactic| repeat (first | refine ⟨_, rfl, ?_⟩ | refine ⟨_, _, rfl, rfl, ?_⟩ | refine ⟨_, _, rfl, ?_⟩))
def oddW (lo hi : Int) : List PyData := [.int (lo - 1), .int (hi + 1), .int (-1 - hi), .bool true, .bool false, .none, .str "2", .tuple [.int 2], .tuple [], .int (10 ^ 20), .int (-(10 ^ 20))]
def spOdd (K : PySem.W.Frag) : Sp := fun vs H Q _ => ∃ (j : Addr) (lo hi : Int), vs = [.ref j, .int lo, .int hi] ∧ Jar H j ∧
  ∀ (v : V) (d : PyData) (H' : Hp), d ∈ oddW lo hi → Jar H' j → But [j] H H' → Dp K (cut [j] H') v d → Q v H'
def isW : PyData → Bool
  | .int _ => true
  | _ => false
def spIsW (K : PySem.W.Frag) : Sp := fun vs H Q _ => ∃ (v : V) (d : PyData), vs = [v] ∧ Dp K H v d ∧ Q (.bl (isW d)) H
section
variable {P : Program} {w : World} {K : PySem.W.Frag} {mg : Str → Option Value} {base : Heap}
theorem ok_odd_whole (D : Dn K mg "_law_odd_whole" s_law_odd_whole ["jar", "low", "high"]) (f_law_one : Cal P w K mg base 2 "_law_one" (spOne K)) : Cal P w K mg base 3 "_law_odd_whole" (spOdd K) := by
  refine cal_of D sc_law_odd_whole (fun vs H Q E h => ?_) (fun f cdv A outer s H vs Q E hr h => ?_)
  · obtain ⟨a, lo, hi, rfl, _⟩ := h
    rfl
  · obtain ⟨j, lo, hi, rfl, J, q⟩ := h
    refine ⟨_, (pss_one (ps_ret (LB.pe_c f_law_one hr (by decide) (by rfl) (pa_cons (pv 0) (pa_cons (pe_lst (pa_cons (pe_op op_sub (pv 1) pe_int) (pa_cons (pe_op op_add (pv 2) pe_int) (pa_cons (pe_op op_sub (pe_un un_neg pe_int) (pv 2)) (pa_cons pe_bl (pa_cons pe_bl (pa_cons pe_non (pa_cons pe_str (pa_cons (pe_tup (pa_cons pe_int pa_nil)) (pa_cons (pe_tup pa_nil) (pa_cons (pe_op op_pow pe_int pe_int) (pa_cons (pe_un un_neg (pe_op op_pow pe_int pe_int)) pa_nil)))))))))))) pa_nil))))), ?_⟩
    refine ⟨_, rfl, ?_⟩
    refine ⟨_, rfl, _, _, rfl, rfl, _, rfl, _, _, rfl, rfl, _, rfl, _, rfl, _, _, rfl, rfl, ?_⟩
    refine ⟨(by show 1 ≤ sizeLine; decide), fun t1 h1 => ⟨Nat.zero_le _, fun t2 h2 => ?_⟩⟩
    refine ⟨_, _, rfl, rfl, ⟨by decide, by decide, by decide⟩, _, _, rfl, rfl, ⟨by decide, by decide, by decide⟩, _, rfl, ?_⟩
    refine ⟨(by show 11 ≤ sizeLine; decide), fun p hp => ?_⟩
    have e1 : Evl.Ex H (upd H t1 (.tup [.int 2])) := Evl.Ex.new h1
    have e2 := Evl.Ex.new (o := .tup []) h2
    have nj : ∀ {H' : Hp} {q : Addr}, Evl.Ex H H' → H' q = none → q ≠ j := fun {H' q} e hq z => by
      obtain ⟨a, b, hj, _⟩ := J
      rw [z, e _ _ hj] at hq
      cases hq
    have n1 := nj (Evl.Ex.refl H) h1
    have n2 := nj e1 h2
    have n3 := nj (e1.trans e2) hp
    have J' : Jar (upd (upd (upd H t1 (.tup [.int 2])) t2 (.tup [])) p (.lst [.int (lo - 1), .int (hi + 1), .int (-1 - hi), .bl true, .bl false, .non, .str "2", .ref t1, .ref t2, .int (10 ^ 20), .int (-(10 ^ 20))])) j := by
      obtain ⟨a, b, hj, hJ⟩ := J
      exact ⟨a, b, by rw [upd_ne n3.symm, upd_ne n2.symm, upd_ne n1.symm]; exact hj, hJ⟩
    refine ⟨j, p, _, rfl, J', Or.inl (Or.inl (Or.inl (by rw [cut_out (by simpa using n3), upd_same]))), (by show 1 ≤ 11; decide), (by show 11 < 1073741824; decide), fun i v H' hv J2 b => ?_⟩
    have hd : DpAll K (cut [j] (upd (upd (upd H t1 (.tup [.int 2])) t2 (.tup [])) p (.lst [.int (lo - 1), .int (hi + 1), .int (-1 - hi), .bl true, .bl false, .non, .str "2", .ref t1, .ref t2, .int (10 ^ 20), .int (-(10 ^ 20))])))
        [.int (lo - 1), .int (hi + 1), .int (-1 - hi), .bl true, .bl false, .non, .str "2", .ref t1, .ref t2, .int (10 ^ 20), .int (-(10 ^ 20))] (oddW lo hi) := by
      have n12 : t1 ≠ t2 := fun z => by rw [← z, upd_same] at h2; cases h2
      have n13 : t1 ≠ p := fun z => by rw [← z, upd_ne n12, upd_same] at hp; cases hp
      have n23 : t2 ≠ p := fun z => by rw [← z, upd_same] at hp; cases hp
      refine .cons (.int _) (.cons (.int _) (.cons (.int _) (.cons (.bl _) (.cons (.bl _) (.cons .non (.cons (.str _) (.cons (.tup (Or.inl (Or.inl ?_)) (.cons (.int 2) .nil)) (.cons (.tup (Or.inl (Or.inl ?_)) .nil) (.cons (.int _) (.cons (.int _) .nil))))))))))
      · rw [cut_out (by simpa using n1), upd_ne n13, upd_ne n12, upd_same]
      · rw [cut_out (by simpa using n2), upd_ne n23, upd_same]
    obtain ⟨d, g1, g2⟩ := hd.get hv
    refine q v d H' (List.mem_of_getElem? g1) J2 (fun a o ha ho => b a o ha ?_) (g2.up b.cut)
    rw [upd_ne (fun z => ?_), upd_ne (fun z => ?_), upd_ne (fun z => ?_)]
    · exact ho
    · rw [z, h1] at ho; cases ho
    · rw [z] at ho; rw [e1 _ _ ho] at h2; cases h2
    · rw [z] at ho; rw [e2 _ _ (e1 _ _ ho)] at hp; cases hp
theorem ok_is_whole (D : Dn K mg "_law_is_whole" s_law_is_whole ["thing"]) (T : Bt mg) : Cal P w K mg base 1 "_law_is_whole" (spIsW K) := by
  refine cal_of D sc_law_is_whole (fun vs H Q E h => ?_) (fun f cdv A outer s H vs Q E hr h => ?_)
  · obtain ⟨v, d, rfl, _⟩ := h
    rfl
  · obtain ⟨v, d, rfl, hd, q⟩ := h
    refine ⟨_, (pss_one (ps_ret (pe_and (pe_callB call_isi (by rfl) T.m_isinstance (by decide +kernel) (pa_cons (pv 0) (pa_cons (pe_bltn (v := .ty "int") (u := .type "int") (by rfl) T.m_int (by decide +kernel) rfl) pa_nil))) (pe_one (pe_not (pe_callB call_isi (by rfl) T.m_isinstance (by decide +kernel) (pa_cons (pv 0) (pa_cons (pe_bltn (v := .ty "bool") (u := .type "bool") (by rfl) T.m_bool (by decide +kernel) rfl) pa_nil)))))))), ?_⟩
    refine ⟨_, rfl, v, .ty "int", _, _, _, rfl, .ty "int", dp_ty hd, kit_int hd, _, rfl, ?_⟩
    cases hd with
    | int i => exact iteT ⟨_, rfl, _, .ty "bool", _, _, _, rfl, .ty "bool", dp_ty (Dp.int i), kit_bool (Dp.int (H := H) (K := K) i), _, rfl, q⟩
    | bl b => exact iteT ⟨_, rfl, _, .ty "bool", _, _, _, rfl, .ty "bool", dp_ty (Dp.bl b), kit_bool (Dp.bl (H := H) (K := K) b), _, rfl, q⟩
    | non => exact iteF q
    | str x => exact iteF q
    | lst _ _ => exact iteF q
    | tup _ _ => exact iteF q
end
end K22
end
section
set_option Elab.async false
set_option linter.all false
set_option maxRecDepth 100000
set_option maxHeartbeats 4000000
namespace K22
open PySem PySem.Spec PyProof.Rows L2 LB
/-- data of so many floors, without dicts -/
def fits : Nat → PyData → Bool
  | 0, _ => false
  | n + 1, .list ds => decide (ds.length ≤ 100000) && ds.all (fits n)
  | n + 1, .tuple ds => decide (ds.length ≤ 100000) && ds.all (fits n)
  | _ + 1, .dict _ => false
  | _ + 1, _ => true
def spLike (K : PySem.W.Frag) (n : Nat) : Sp := fun vs H Q _ => ∃ (v1 v2 : V) (d : PyData), vs = [v1, v2] ∧ Dp K H v1 d ∧ Dp K H v2 d ∧ fits n d = true ∧ ∀ H', Evl.Ex H H' → Q (.bl true) H'
section
variable {P : Program} {w : World} {K : PySem.W.Frag} {mg : Str → Option Value} {base : Heap}
theorem ok_like0 (D : Dn K mg "_law_like" s_law_like ["told", "owed"]) : Cal P w K mg base 2 "_law_like" (spLike K 0) := by
  refine cal_of D sc_law_like (fun vs H Q E h => ?_) (fun f cdv A outer s H vs Q E hr h => ?_)
  · obtain ⟨v1, v2, d, rfl, _⟩ := h
    rfl
  · obtain ⟨v1, v2, d, rfl, _, _, h, _⟩ := h
    cases d <;> cases h
theorem ok_like_succ {n : Nat} (D : Dn K mg "_law_like" s_law_like ["told", "owed"]) (T : Bt mg) (f_law_is_whole : Cal P w K mg base 1 "_law_is_whole" (spIsW K)) (f_law_like : Cal P w K mg base (n + 2) "_law_like" (spLike K n)) :
    Cal P w K mg base (n + 3) "_law_like" (spLike K (n + 1)) := by
  refine cal_of D sc_law_like (fun vs H Q E h => ?_) (fun f cdv A outer s H vs Q E hr h => ?_)
  · obtain ⟨v1, v2, d, rfl, _⟩ := h
    rfl
  · obtain ⟨v1, v2, d, rfl, h1, h2, hf, q⟩ := h
    refine ⟨_, (pss_cons (ps_if (pt_cmp (pc_isN (pv 1)) rfl) (pss_one (ps_ret (pe_cmp (pc_isN (pv 0)) rfl))) pss_nil)
      (pss_cons (ps_if (pt_val (pe_callB call_isi (by rfl) T.m_isinstance (by decide +kernel) (pa_cons (pv 1) (pa_cons (pe_bltn (v := .ty "bool") (u := .type "bool") (by rfl) T.m_bool (by decide +kernel) rfl) pa_nil)))) (pss_one (ps_ret (pe_ifExp (pt_val (pv 1)) (pe_cmpR op_is_bl (pv 0) pe_bl (nomark _)) (pe_cmpR op_is_bl (pv 0) pe_bl (nomark _))))) pss_nil)
      (pss_cons (ps_if (pt_val (pe_callB call_isi (by rfl) T.m_isinstance (by decide +kernel) (pa_cons (pv 1) (pa_cons (pe_bltn (v := .ty "int") (u := .type "int") (by rfl) T.m_int (by decide +kernel) rfl) pa_nil)))) (pss_one (ps_ret (pe_and (LB.pe_c f_law_is_whole hr (by omega) (by rfl) (pa_cons (pv 0) pa_nil)) (pe_one (pe_cmpR op_eq (pv 0) (pv 1) (nomark _)))))) pss_nil)
      (pss_cons (ps_if (pt_val (pe_callB call_isi (by rfl) T.m_isinstance (by decide +kernel) (pa_cons (pv 1) (pa_cons (pe_bltn (v := .ty "str") (u := .type "str") (by rfl) T.m_str (by decide +kernel) rfl) pa_nil)))) (pss_one (ps_ret (pe_and (pe_callB call_isi (by rfl) T.m_isinstance (by decide +kernel) (pa_cons (pv 0) (pa_cons (pe_bltn (v := .ty "str") (u := .type "str") (by rfl) T.m_str (by decide +kernel) rfl) pa_nil))) (pe_one (pe_cmpR op_eq (pv 0) (pv 1) (nomark _)))))) pss_nil)
      (pss_cons (ps_if (pt_val (pe_callB call_isi (by rfl) T.m_isinstance (by decide +kernel) (pa_cons (pv 1) (pa_cons (pe_bltn (v := .ty "dict") (u := .type "dict") (by rfl) T.m_dict (by decide +kernel) rfl) pa_nil)))) (pss_cons ps_never (pss_one ps_never)) pss_nil)
      (pss_cons (ps_if (PW.pt (pw_and (pt_not (pt_val (pe_callB call_isi (by rfl) T.m_isinstance (by decide +kernel) (pa_cons (pv 1) (pa_cons (pe_bltn (v := .ty "tuple") (u := .type "tuple") (by rfl) T.m_tuple (by decide +kernel) rfl) pa_nil))))) (pw_and1 (pt_not (pt_val (pe_callB call_isi (by rfl) T.m_isinstance (by decide +kernel) (pa_cons (pv 1) (pa_cons (pe_bltn (v := .ty "list") (u := .type "list") (by rfl) T.m_list (by decide +kernel) rfl) pa_nil)))))))) (pss_one ps_never) pss_nil)
      (pss_cons (ps_if (pt_not (LB.pt_ifExp (pt_val (pe_callB call_isi (by rfl) T.m_isinstance (by decide +kernel) (pa_cons (pv 1) (pa_cons (pe_bltn (v := .ty "tuple") (u := .type "tuple") (by rfl) T.m_tuple (by decide +kernel) rfl) pa_nil)))) (pt_val (pe_callB call_isi (by rfl) T.m_isinstance (by decide +kernel) (pa_cons (pv 0) (pa_cons (pe_bltn (v := .ty "tuple") (u := .type "tuple") (by rfl) T.m_tuple (by decide +kernel) rfl) pa_nil)))) (pt_val (pe_callB call_isi (by rfl) T.m_isinstance (by decide +kernel) (pa_cons (pv 0) (pa_cons (pe_bltn (v := .ty "list") (u := .type "list") (by rfl) T.m_list (by decide +kernel) rfl) pa_nil)))))) (pss_one (ps_ret pe_bl)) pss_nil)
      (pss_one (ps_ret (pe_and (pe_cmpR op_eq (pe_callB call_len_seq (by rfl) T.m_len PySem.boot_len (pa_cons (pv 0) pa_nil)) (pe_callB call_len_seq (by rfl) T.m_len PySem.boot_len (pa_cons (pv 1) pa_nil)) (nomark _)) (pe_one (pe_cmpR (op_eqD hr.units) (pe_lc (own := [("at", 3)]) rfl sc_law_like.nd (pi_range1 (by rfl) T.m_range (pa_cons (pe_callB call_len_seq (by rfl) T.m_len PySem.boot_len (pa_cons (pv 1) pa_nil)) pa_nil)) (blkOk_by (N := ["told", "owed", "key", "at"]) (sc := defScope s_law_like) (by decide +kernel)) (fun _ _ _ _ _ => (pg_name (i := 3) sc_law_like.nd rfl (Or.inl rfl))) (fun _ _ _ _ _ => (pts_one (pt_not (pt_val (LB.pe_c f_law_like hr (by omega) (by rfl) (pa_cons (pe_ix (ixK_seq (K := K) rfl) (pv 0) (pv 3) (fun _ _ => rfl)) (pa_cons (pe_ix (ixK_seq (K := K) rfl) (pv 1) (pv 3) (fun _ _ => rfl)) pa_nil))))))) (fun _ _ _ _ _ => (pv 3))) (pe_lst pa_nil) (nomark _))))))))))))), ?_⟩
    cases h2 with
    | non =>
      cases h1
      exact ⟨_, rfl, _, rfl, iteT ⟨_, rfl, q H (Evl.Ex.refl H)⟩⟩
    | bl b =>
      cases h1
      refine ⟨_, rfl, _, rfl, iteF ?_⟩
      refine ⟨_, rfl, _, .ty "bool", _, _, _, rfl, .ty "bool", dp_ty (Dp.bl b), kit_bool (Dp.bl (H := H) (K := K) b), _, rfl, iteT ?_⟩
      refine ⟨_, rfl, _, rfl, ?_⟩
      cases b with
      | true => exact iteT ⟨_, rfl, _, _, rfl, rfl, q H (Evl.Ex.refl H)⟩
      | false => exact iteF ⟨_, rfl, _, _, rfl, rfl, q H (Evl.Ex.refl H)⟩
    | int i =>
      cases h1
      refine ⟨_, rfl, _, rfl, iteF ?_⟩
      refine ⟨_, rfl, _, .ty "bool", _, _, _, rfl, .ty "bool", dp_ty (Dp.int i), kit_bool (Dp.int (H := H) (K := K) i), _, rfl, iteF ?_⟩
      refine ⟨_, rfl, _, .ty "int", _, _, _, rfl, .ty "int", dp_ty (Dp.int i), kit_int (Dp.int (H := H) (K := K) i), _, rfl, iteT ?_⟩
      refine ⟨_, rfl, _, _, rfl, Dp.int i, _, rfl, iteT ⟨_, rfl, _, rfl, rfl, ?_⟩⟩
      rw [decide_eq_true rfl]
      exact q H (Evl.Ex.refl H)
    | str x =>
      cases h1
      refine ⟨_, rfl, _, rfl, iteF ?_⟩
      refine ⟨_, rfl, _, .ty "bool", _, _, _, rfl, .ty "bool", dp_ty (Dp.str x), kit_bool (Dp.str (H := H) (K := K) x), _, rfl, iteF ?_⟩
      refine ⟨_, rfl, _, .ty "int", _, _, _, rfl, .ty "int", dp_ty (Dp.str x), kit_int (Dp.str (H := H) (K := K) x), _, rfl, iteF ?_⟩
      refine ⟨_, rfl, _, .ty "str", _, _, _, rfl, .ty "str", dp_ty (Dp.str x), kit_str (Dp.str (H := H) (K := K) x), _, rfl, iteT ?_⟩
      refine ⟨_, rfl, _, .ty "str", _, _, _, rfl, .ty "str", dp_ty (Dp.str x), kit_str (Dp.str (H := H) (K := K) x), _, rfl, iteT ⟨_, rfl, _, rfl, rfl, ?_⟩⟩
      rw [decide_eq_true rfl]
      exact q H (Evl.Ex.refl H)
    | @lst a2 xs2 ds s2 d2 =>
      cases h1 with
      | @lst a1 xs1 _ s1 d1 =>
      have g2 : Dp K H (.ref a2) (.list ds) := .lst s2 d2
      have g1 : Dp K H (.ref a1) (.list ds) := .lst s1 d1
      refine ⟨_, rfl, _, rfl, iteF ?_⟩
      refine ⟨_, rfl, _, .ty "bool", _, _, _, rfl, .ty "bool", dp_ty g2, kit_bool g2, _, rfl, iteF ?_⟩
      refine ⟨_, rfl, _, .ty "int", _, _, _, rfl, .ty "int", dp_ty g2, kit_int g2, _, rfl, iteF ?_⟩
      refine ⟨_, rfl, _, .ty "str", _, _, _, rfl, .ty "str", dp_ty g2, kit_str g2, _, rfl, iteF ?_⟩
      refine ⟨_, rfl, _, .ty "dict", _, _, _, rfl, .ty "dict", dp_ty g2, kit_dict g2, _, rfl, iteF ?_⟩
      refine ⟨_, rfl, _, .ty "tuple", _, _, _, rfl, .ty "tuple", dp_ty g2, kit_tup g2, _, rfl, iteT ?_⟩
      refine ⟨_, rfl, _, .ty "list", _, _, _, rfl, .ty "list", dp_ty g2, kit_lst g2, _, rfl, iteF ?_⟩
      refine ⟨_, rfl, _, .ty "tuple", _, _, _, rfl, .ty "tuple", dp_ty g2, kit_tup g2, _, rfl, iteF ?_⟩
      refine ⟨_, rfl, _, .ty "list", _, _, _, rfl, .ty "list", dp_ty g1, kit_lst g1, _, rfl, iteF ?_⟩
      have l1 := d1.len
      have l2 := d2.len
      obtain ⟨hf1, hf2⟩ := Bool.and_eq_true_iff.mp hf
      have hf1 := of_decide_eq_true hf1
      refine ⟨_, rfl, a1, xs1, rfl, Or.inl s1, _, rfl, a2, xs2, rfl, Or.inl s2, rfl, ?_⟩
      rw [show decide (V.int (xs1.length : Nat) = V.int (xs2.length : Nat)) = true by rw [l1, l2, decide_eq_true rfl]]
      refine ⟨_, rfl, iteT ?_⟩
      refine ⟨_, rfl, a2, xs2, rfl, Or.inl s2, _, rfl, by omega, by omega, fun Dl hD => lc_range (lo := 0) (n := (xs2.length : Int).toNat) (fun i H' => But [Dl] H H' ∧ H' Dl = some (.lst [])) ⟨But.new hD, upd_same⟩ ?_ ?_⟩
      · rintro i H' hi ⟨b, hDl⟩
        have eD : ∀ z ∈ [Dl], H z = none := fun z hz => by rw [List.mem_singleton.mp hz]; exact hD
        have e := b.ex eD
        have hi2 : i < ds.length := by omega
        obtain ⟨x1, x1i, dx1⟩ := d1.getD (List.getElem?_eq_getElem hi2)
        obtain ⟨x2, x2i, dx2⟩ := d2.getD (List.getElem?_eq_getElem hi2)
        refine ⟨rfl, _, rfl, _, rfl, Or.inl ⟨a1, xs1, _, x1, rfl, rfl, Evl.ex_l e s1, at_of (by omega) x1i, ?_⟩⟩
        refine ⟨_, rfl, _, rfl, Or.inl ⟨a2, xs2, _, x2, rfl, rfl, Evl.ex_l e s2, at_of (by omega) x2i, ?_⟩⟩
        have hfd : fits n ds[i] = true := (List.all_eq_true.mp hf2) _ (List.getElem_mem hi2)
        refine ⟨x1, x2, _, rfl, dx1.up e, dx2.up e, hfd, fun H3 e3 => ⟨_, rfl, ?_⟩⟩
        exact ⟨b.trans (But.of e3), e3 _ _ hDl⟩
      · rintro H' ⟨b, hDl⟩
        have eD : ∀ z ∈ [Dl], H z = none := fun z hz => by rw [List.mem_singleton.mp hz]; exact hD
        refine ⟨Nat.zero_le _, fun p hp => ⟨.list [], .list [], .lst (Or.inl (Or.inl ?_)) .nil, .lst (Or.inl (Or.inl upd_same)) .nil, by decide, by decide, ?_⟩⟩
        · rw [upd_ne (ne_of_none hDl hp)]
          exact hDl
        · exact q _ ((b.ex eD).trans (Evl.Ex.new hp))
    | @tup a2 xs2 ds s2 d2 =>
      cases h1 with
      | @tup a1 xs1 _ s1 d1 =>
      have g2 : Dp K H (.ref a2) (.tuple ds) := .tup s2 d2
      have g1 : Dp K H (.ref a1) (.tuple ds) := .tup s1 d1
      refine ⟨_, rfl, _, rfl, iteF ?_⟩
      refine ⟨_, rfl, _, .ty "bool", _, _, _, rfl, .ty "bool", dp_ty g2, kit_bool g2, _, rfl, iteF ?_⟩
      refine ⟨_, rfl, _, .ty "int", _, _, _, rfl, .ty "int", dp_ty g2, kit_int g2, _, rfl, iteF ?_⟩
      refine ⟨_, rfl, _, .ty "str", _, _, _, rfl, .ty "str", dp_ty g2, kit_str g2, _, rfl, iteF ?_⟩
      refine ⟨_, rfl, _, .ty "dict", _, _, _, rfl, .ty "dict", dp_ty g2, kit_dict g2, _, rfl, iteF ?_⟩
      refine ⟨_, rfl, _, .ty "tuple", _, _, _, rfl, .ty "tuple", dp_ty g2, kit_tup g2, _, rfl, iteF ?_⟩
      refine ⟨_, rfl, _, .ty "tuple", _, _, _, rfl, .ty "tuple", dp_ty g2, kit_tup g2, _, rfl, iteT ?_⟩
      refine ⟨_, rfl, _, .ty "tuple", _, _, _, rfl, .ty "tuple", dp_ty g1, kit_tup g1, _, rfl, iteF ?_⟩
      have l1 := d1.len
      have l2 := d2.len
      obtain ⟨hf1, hf2⟩ := Bool.and_eq_true_iff.mp hf
      have hf1 := of_decide_eq_true hf1
      refine ⟨_, rfl, a1, xs1, rfl, Or.inr s1, _, rfl, a2, xs2, rfl, Or.inr s2, rfl, ?_⟩
      rw [show decide (V.int (xs1.length : Nat) = V.int (xs2.length : Nat)) = true by rw [l1, l2, decide_eq_true rfl]]
      refine ⟨_, rfl, iteT ?_⟩
      refine ⟨_, rfl, a2, xs2, rfl, Or.inr s2, _, rfl, by omega, by omega, fun Dl hD => lc_range (lo := 0) (n := (xs2.length : Int).toNat) (fun i H' => But [Dl] H H' ∧ H' Dl = some (.lst [])) ⟨But.new hD, upd_same⟩ ?_ ?_⟩
      · rintro i H' hi ⟨b, hDl⟩
        have eD : ∀ z ∈ [Dl], H z = none := fun z hz => by rw [List.mem_singleton.mp hz]; exact hD
        have e := b.ex eD
        have hi2 : i < ds.length := by omega
        obtain ⟨x1, x1i, dx1⟩ := d1.getD (List.getElem?_eq_getElem hi2)
        obtain ⟨x2, x2i, dx2⟩ := d2.getD (List.getElem?_eq_getElem hi2)
        refine ⟨rfl, _, rfl, _, rfl, Or.inr (Or.inl ⟨a1, xs1, _, x1, rfl, rfl, Evl.ex_t e s1, at_of (by omega) x1i, ?_⟩)⟩
        refine ⟨_, rfl, _, rfl, Or.inr (Or.inl ⟨a2, xs2, _, x2, rfl, rfl, Evl.ex_t e s2, at_of (by omega) x2i, ?_⟩)⟩
        have hfd : fits n ds[i] = true := (List.all_eq_true.mp hf2) _ (List.getElem_mem hi2)
        refine ⟨x1, x2, _, rfl, dx1.up e, dx2.up e, hfd, fun H3 e3 => ⟨_, rfl, ?_⟩⟩
        exact ⟨b.trans (But.of e3), e3 _ _ hDl⟩
      · rintro H' ⟨b, hDl⟩
        have eD : ∀ z ∈ [Dl], H z = none := fun z hz => by rw [List.mem_singleton.mp hz]; exact hD
        refine ⟨Nat.zero_le _, fun p hp => ⟨.list [], .list [], .lst (Or.inl (Or.inl ?_)) .nil, .lst (Or.inl (Or.inl upd_same)) .nil, by decide, by decide, ?_⟩⟩
        · rw [upd_ne (ne_of_none hDl hp)]
          exact hDl
        · exact q _ ((b.ex eD).trans (Evl.Ex.new hp))
theorem ok_like (D : Dn K mg "_law_like" s_law_like ["told", "owed"]) (T : Bt mg) (f_law_is_whole : Cal P w K mg base 1 "_law_is_whole" (spIsW K)) : ∀ n, Cal P w K mg base (n + 2) "_law_like" (spLike K n)
  | 0 => ok_like0 D
  | n + 1 => ok_like_succ D T f_law_is_whole (ok_like D T f_law_is_whole n)
end
end K22
end
section
set_option Elab.async false
set_option linter.all false
set_option maxRecDepth 100000
set_option maxHeartbeats 4000000
namespace K22
open PySem PySem.Spec PyProof.Rows L2 LB Evl
abbrev Bar := Int × Int × Int
def barD (x : Bar) : PyData := .tuple [.int x.1, .int x.2.1, .int x.2.2]
def goodB (x : Bar) : Bool := decide (0 ≤ x.1 ∧ x.1 ≤ 5 ∧ 0 ≤ x.2.1 ∧ x.2.1 ≤ 4000000 ∧ (x.2.2 = -1 ∨ (x.2.1 < x.2.2 ∧ x.2.2 ≤ 4000000)))
def barOf : PyData → Option Bar
  | .tuple [.int k, .int b, .int d] => if goodB (k, b, d) = true then some (k, b, d) else none
  | _ => none
def ltB (x y : Bar) : Bool := HT.lexLt [x.1, x.2.1, x.2.2] [y.1, y.2.1, y.2.2]
/-- is the i-th wrong? -/
def wrongAt (ds : List PyData) (i : Nat) : Bool := match barOf (ds.getD i .none) with
  | none => true
  | some x => match i with
    | 0 => false
    | j + 1 => match barOf (ds.getD j .none) with
      | none => false
      | some y => ltB x y
def firstBad (ds : List PyData) : Option Nat := (List.range ds.length).find? (wrongAt ds)
def faultD : PyData → Option (Str × Int)
  | .tuple ds => if 80 < ds.length then some ("TooMany", (ds.length : Nat)) else (firstBad ds).map fun i => ("BadBars", (i : Nat))
  | _ => some ("BadBars", -1)
/-- what a call comes to: told, or refused by a class with what it keeps -/
inductive Out where
  | told (d : PyData)
  | bad (c : Str) (w : PyData)
def Out.row : Out → PyData
  | .told d => .tuple [.str "told", d]
  | .bad c w => .tuple [.str c, w]
def outE (K : PySem.W.Frag) (cl : Str → Addr) (o : Out) (H : Hp) (Q : VK) (E : XK) : Prop := match o with
  | .told d => ∀ v H', Ex H H' → Dp K H' v d → Q v H'
  | .bad c w => ∀ H' x v, Ex H H' → H' x = none → Dp K H' v w → E (.ref (cl c)) (some x) (upd H' x (.xd [("what", v)]))
theorem outE.up {K : PySem.W.Frag} {cl : Str → Addr} {o : Out} {H H' : Hp} {Q : VK} {E : XK} (h : outE K cl o H Q E) (e : Ex H H') : outE K cl o H' Q E := by
  cases o with
  | told d => exact fun v H2 e2 => h v H2 (e.trans e2)
  | bad c w => exact fun H2 x v e2 => h H2 x v (e.trans e2)
def faultO (d : PyData) : Option Out := (faultD d).map fun p => .bad p.1 (.int p.2)
theorem find_first {p : Nat → Bool} {n i : Nat} (hi : i < n) (h : p i = true) (hb : ∀ j, j < i → p j = false) : (List.range n).find? p = some i := by
  rw [List.find?_eq_some_iff_getElem]
  refine ⟨h, i, by rw [List.length_range]; exact hi, by rw [List.getElem_range], fun j hj => ?_⟩
  rw [List.getElem_range, hb j hj]
  rfl
theorem find_never {p : Nat → Bool} {n : Nat} (hb : ∀ j, j < n → p j = false) : (List.range n).find? p = none := by
  rw [List.find?_eq_none]
  intro x hx
  rw [hb x (List.mem_range.mp hx)]
  decide
theorem dp_bar {K : PySem.W.Frag} {H : Hp} {v : V} {x : Bar} (h : Dp K H v (barD x)) : ∃ t, v = .ref t ∧ SqT K H t ([x.1, x.2.1, x.2.2].map V.int) := by
  cases h with
  | tup hs hd =>
    cases hd with
    | cons a1 a2 =>
      cases a2 with
      | cons a2 a3 =>
        cases a3 with
        | cons a3 a4 =>
          cases a4
          cases a1
          cases a2
          cases a3
          exact ⟨_, rfl, hs⟩
theorem barOf_some {d : PyData} {x : Bar} (h : barOf d = some x) : d = barD x ∧ goodB x = true := by
  unfold barOf at h
  split at h
  · rename_i k b d2
    split at h
    · rename_i hg
      cases h
      exact ⟨rfl, hg⟩
    · cases h
  · cases h
theorem barOf_bar {x : Bar} (h : goodB x = true) : barOf (barD x) = some x := by
  show (if goodB (x.1, x.2.1, x.2.2) = true then some (x.1, x.2.1, x.2.2) else none) = _
  rw [if_pos h]
theorem whole_int {d : PyData} {lo hi : Int} (h : wholeB d lo hi = true) : ∃ i, d = .int i ∧ lo ≤ i ∧ i ≤ hi := by
  cases d with
  | int i =>
    have h' : (decide (lo ≤ i) && decide (i ≤ hi)) = true := h
    rw [Bool.and_eq_true, decide_eq_true_eq, decide_eq_true_eq] at h'
    exact ⟨i, rfl, h'.1, h'.2⟩
  | _ => cases h
theorem int_whole (i lo hi : Int) : wholeB (.int i) lo hi = decide (lo ≤ i ∧ i ≤ hi) := by
  show (decide (lo ≤ i) && decide (i ≤ hi)) = _
  by_cases h1 : lo ≤ i <;> by_cases h2 : i ≤ hi <;> simp [h1, h2]
theorem barOf_whole (d1 d2 d3 : PyData) : (barOf (.tuple [d1, d2, d3])).isSome = (wholeB d1 0 5 && (wholeB d2 0 4000000 && (wholeB d3 (-1) (-1) || (match d2 with | .int b => wholeB d3 (b + 1) 4000000 | _ => false)))) := by
  cases d1 with
  | int k =>
    cases d2 with
    | int b =>
      cases d3 with
      | int d =>
        have e : (barOf (.tuple [.int k, .int b, .int d])).isSome = goodB (k, b, d) := by
          show (if goodB (k, b, d) = true then some (k, b, d) else none).isSome = _
          cases goodB (k, b, d) <;> rfl
        rw [e, int_whole, int_whole, int_whole]
        show decide _ = (_ && (_ && (_ || wholeB (.int d) (b + 1) 4000000)))
        rw [int_whole, Bool.eq_iff_iff]
        simp only [Bool.and_eq_true, Bool.or_eq_true, decide_eq_true_eq]
        omega
      | _ => simp [barOf, wholeB]
    | _ => simp [barOf, wholeB]
  | _ => simp [barOf, wholeB]
theorem iteN' {c : Bool} {A B : Prop} (h1 : c = true → B) (h2 : c = false → A) : if (!c) = true then A else B := by
  cases h : c
  · exact iteT (h2 h)
  · exact iteF (h1 h)
def spIsBar (K : PySem.W.Frag) : Sp := fun vs H Q _ => ∃ (v : V) (d : PyData), vs = [v] ∧ Dp K H v d ∧ Q (.bl (barOf d).isSome) H
def spFault (K : PySem.W.Frag) : Sp := fun vs H Q _ => ∃ (v : V) (d : PyData), vs = [v] ∧ Dp K H v d ∧ (faultD d = none → ∀ H', Ex H H' → Q .non H') ∧
  ∀ p, faultD d = some p → ∀ (t : Addr) (H' : Hp), Ex H H' → H' t = some (.tup [.str p.1, .int p.2]) → Q (.ref t) H'
section
variable {P : Program} {w : World} {K : PySem.W.Frag} {mg : Str → Option Value} {base : Heap}
theorem ok_is_bar (D : Dn K mg "is_bar" s_is_bar ["thing"]) (T : Bt mg) (f_whole : Cal P w K mg base 1 "whole" (spWhole K)) : Cal P w K mg base 2 "is_bar" (spIsBar K) := by
  refine cal_of D sc_is_bar (fun vs H Q E h => ?_) (fun f cdv A outer s H vs Q E hr h => ?_)
  · obtain ⟨v, d, rfl, _⟩ := h
    rfl
  · obtain ⟨v, d, rfl, hd, q⟩ := h
    refine ⟨_, (pss_cons (ps_if (PW.pt (pw_or (pt_not (pt_val (pe_callB call_isi (by rfl) T.m_isinstance (by decide +kernel) (pa_cons (pv 0) (pa_cons (pe_bltn (v := .ty "tuple") (u := .type "tuple") (by rfl) T.m_tuple (by decide +kernel) rfl) pa_nil))))) (pw_or1 (pt_cmpR op_ne (pe_callB call_len_seq (by rfl) T.m_len PySem.boot_len (pa_cons (pv 0) pa_nil)) pe_int (nomark _))))) (pss_one (ps_ret pe_bl)) pss_nil)
      (pss_cons (ps_asg (pv 0) (pg_tup rfl (pgs_cons (pg_name (i := 1) sc_is_bar.nd rfl (Or.inl rfl)) (pgs_cons (pg_name (i := 2) sc_is_bar.nd rfl (Or.inl rfl)) (pgs_cons (pg_name (i := 3) sc_is_bar.nd rfl (Or.inl rfl)) pgs_nil)))))
      (pss_cons (ps_if (PW.pt (pw_or (pt_not (pt_val (LB.pe_c f_whole hr (by decide) (by rfl) (pa_cons (pv 1) (pa_cons pe_int (pa_cons pe_int pa_nil)))))) (pw_or1 (pt_not (pt_val (LB.pe_c f_whole hr (by decide) (by rfl) (pa_cons (pv 2) (pa_cons pe_int (pa_cons (C8.pe_gc (by rfl) T.c_MOST_DATE) pa_nil))))))))) (pss_one (ps_ret pe_bl)) pss_nil)
      (pss_one (ps_ret (pe_or (LB.pe_c f_whole hr (by decide) (by rfl) (pa_cons (pv 3) (pa_cons (C8.pe_gc (by rfl) T.c_ENDLESS) (pa_cons (C8.pe_gc (by rfl) T.c_ENDLESS) pa_nil)))) (pe_one (LB.pe_c f_whole hr (by decide) (by rfl) (pa_cons (pv 3) (pa_cons (pe_op op_add (pv 2) pe_int) (pa_cons (C8.pe_gc (by rfl) T.c_MOST_DATE) pa_nil))))))))))), ?_⟩
    refine ⟨_, rfl, v, .ty "tuple", _, _, _, rfl, .ty "tuple", dp_ty hd, kit_tup hd, _, rfl, ?_⟩
    cases hd with
    | non => exact iteT q
    | bl b => exact iteT q
    | int i => exact iteT q
    | str x => exact iteT q
    | lst _ _ => exact iteT q
    | @tup a xs ds hs ha =>
      have hl : xs.length = ds.length := ha.len
      refine iteF ⟨_, rfl, a, xs, rfl, Or.inr hs, rfl, _, rfl, iteN (fun c0 => ?_) (fun c0 => ?_)⟩
      · have h3 : xs.length = 3 := by
          have := V.int.inj c0
          omega
        match ds, ha with
        | [], ha => cases ha; cases h3
        | [_], ha => cases ha with | cons a1 a2 => cases a2; cases h3
        | [_, _], ha => cases ha with | cons a1 a2 => cases a2 with | cons a2 a3 => cases a3; cases h3
        | _ :: _ :: _ :: _ :: _, ha => rw [hl] at h3; simp at h3
        | [d1, d2, d3], ha =>
          cases ha with
          | @cons x1 _ _ _ a1 a2 =>
          cases a2 with
          | @cons x2 _ _ _ a2 a3 =>
          cases a3 with
          | @cons x3 _ _ _ a3 a4 =>
          cases a4
          refine ⟨_, rfl, a, _, rfl, hs, rfl, _, _, rfl, _, _, rfl, _, _, rfl, rfl, ?_⟩
          rw [barOf_whole] at q
          refine ⟨_, rfl, x1, d1, 0, 5, rfl, a1, _, rfl, ?_⟩
          cases hw1 : wholeB d1 0 5 with
          | false =>
            rw [hw1] at q
            exact iteT q
          | true =>
            rw [hw1, Bool.true_and] at q
            refine iteF ⟨_, rfl, x2, d2, 0, 4000000, rfl, a2, _, rfl, ?_⟩
            cases hw2 : wholeB d2 0 4000000 with
            | false =>
              rw [hw2] at q
              exact iteT q
            | true =>
              rw [hw2, Bool.true_and] at q
              obtain ⟨b, rfl, b0, b1⟩ := whole_int hw2
              cases a2
              refine iteF ⟨_, rfl, x3, d3, -1, -1, rfl, a3, _, rfl, ?_⟩
              have q' : Q (.bl (wholeB d3 (-1) (-1) || wholeB d3 (b + 1) 4000000)) H := q
              cases hw3 : wholeB d3 (-1) (-1) with
              | true =>
                rw [hw3] at q'
                exact iteT q'
              | false =>
                rw [hw3, Bool.false_or] at q'
                exact iteF ⟨_, rfl, _, rfl, _, _, rfl, rfl, x3, d3, b + 1, 4000000, rfl, a3, q'⟩
      · have h3 : ¬ ds.length = 3 := fun z => c0 (by rw [hl, z]; rfl)
        have hq : barOf (.tuple ds) = none := by
          unfold barOf
          split
          · rename_i h; cases h; exact absurd rfl h3
          · rfl
        rw [hq] at q
        exact q
theorem ok_bars_wrong (D : Dn K mg "bars_wrong" s_bars_wrong ["thing"]) (T : Bt mg) (f_is_bar : Cal P w K mg base 2 "is_bar" (spIsBar K)) : Cal P w K mg base 3 "bars_wrong" (spFault K) := by
  refine cal_of D sc_bars_wrong (fun vs H Q E h => ?_) (fun f cdv A outer s H vs Q E hr h => ?_)
  · obtain ⟨v, d, rfl, _⟩ := h
    rfl
  · obtain ⟨v, d, rfl, hd, q0, q1⟩ := h
    have hu : (A.deeper (envOfC "bars_wrong" (defScope s_bars_wrong) s.heap.objs.size f cdv)).units < cLine := by
      have := hr.un
      omega
    refine ⟨_, (pss_cons (ps_if (pt_not (pt_val (pe_callB call_isi (by rfl) T.m_isinstance (by decide +kernel) (pa_cons (pv 0) (pa_cons (pe_bltn (v := .ty "tuple") (u := .type "tuple") (by rfl) T.m_tuple (by decide +kernel) rfl) pa_nil))))) (pss_one (ps_ret (pe_tup (pa_cons pe_str (pa_cons (pe_un un_neg pe_int) pa_nil))))) pss_nil)
      (pss_cons (ps_if (pt_cmpR op_gt (pe_callB call_len_seq (by rfl) T.m_len PySem.boot_len (pa_cons (pv 0) pa_nil)) (C8.pe_gc (by rfl) T.c_MOST_BARS) (nomark _)) (pss_one (ps_ret (pe_tup (pa_cons pe_str (pa_cons (pe_callB call_len_seq (by rfl) T.m_len PySem.boot_len (pa_cons (pv 0) pa_nil)) pa_nil))))) pss_nil)
      (pss_cons (ps_for PassesOwn.never rfl (pi_enumT (by rfl) T.m_enumerate (pa_cons (pv 0) pa_nil)) (pg_tup rfl (pgs_cons (pg_name (i := 1) sc_bars_wrong.nd rfl (Or.inl rfl)) (pgs_cons (pg_name (i := 2) sc_bars_wrong.nd rfl (Or.inl rfl)) pgs_nil))) (pss_one (ps_if (PW.pt (pw_or (pt_not (pt_val (LB.pe_c f_is_bar hr (by decide) (by rfl) (pa_cons (pv 2) pa_nil)))) (pw_or1 (PW.pt (pw_and (pt_cmpR op_gt (pv 1) pe_int (nomark _)) (pw_and1 (pt_cmpR (op_ltT hu) (pv 2) (pe_ix ix_tup (pv 0) (pe_op op_sub (pv 1) pe_int) (fun _ _ => rfl)) (nomark _)))))))) (pss_one (ps_ret (pe_tup (pa_cons pe_str (pa_cons (pv 1) pa_nil))))) pss_nil)))
      (pss_one (ps_ret pe_non))))), ?_⟩
    have h2 : 2 ≤ sizeLine := by decide
    have nt : isTup d = false → faultD d = some (("BadBars" : Str), (-1 : Int)) := by
      intro h
      cases d with
      | tuple ds => cases h
      | _ => rfl
    refine ⟨_, rfl, v, .ty "tuple", _, _, _, rfl, .ty "tuple", dp_ty hd, kit_tup hd, _, rfl, iteN' (fun c0 => ?_) (fun c0 => ?_)⟩
    · cases hd with
      | @tup a xs ds hs ha =>
        have hl : xs.length = ds.length := ha.len
        refine ⟨_, rfl, a, xs, rfl, Or.inr hs, _, _, rfl, rfl, _, rfl, iteD (fun c1 => ?_) (fun c1 => ?_)⟩
        · refine ⟨_, rfl, a, xs, rfl, Or.inr hs, h2, fun t ht => ?_⟩
          refine q1 ("TooMany", (ds.length : Nat)) ?_ t _ (Ex.new ht) ?_
          · show (if 80 < ds.length then _ else _) = _
            rw [if_pos (by omega)]
          · rw [upd_same, hl]
        · have hn80 : ¬ 80 < ds.length := by omega
          refine ⟨_, rfl, a, xs, rfl, hs, for_it (walk_enumT (K := K) (a := a) (xs := xs)) (fun i σ H' => ∃ v1 v2, σ = [some (V.ref a), v1, v2] ∧ Ex H H' ∧ ∀ j, j < i → wrongAt ds j = false) ⟨none, none, rfl, Ex.refl _, fun j hj => absurd hj (by omega)⟩ (fun i σ H' _ ⟨_, _, _, e, _⟩ => ex_t e hs) ?_ ?_⟩
          · rintro i x σ H' H'' hi ⟨v1, v2, rfl, e, hb⟩ ⟨T0, x1, y, rfl, hT0, rfl, hx1, hy⟩
            cases hx1
            obtain ⟨di, hdi, hDy⟩ := ha.get hy
            have eT := Ex.new (o := .tup [V.int (i : Nat), y]) hT0
            have hDy' := hDy.up (e.trans eT)
            have hgi : ds.getD i .none = di := by rw [List.getD_eq_getElem?_getD, hdi]; rfl
            have bad : wrongAt ds i = true → ∀ (t : Addr) (H3 : Hp), Ex H H3 → H3 t = some (.tup [.str "BadBars", .int (i : Nat)]) → Q (.ref t) H3 := fun hw t H3 e3 h3 => by
              refine q1 ("BadBars", (i : Nat)) ?_ t H3 e3 h3
              show (if 80 < ds.length then _ else _) = _
              rw [if_neg hn80, firstBad, find_first (by omega) hw hb]
              rfl
            refine ⟨T0, _, rfl, Or.inl (Or.inl upd_same), rfl, _, _, rfl, _, _, rfl, rfl, ?_⟩
            refine ⟨_, rfl, y, di, rfl, hDy', _, rfl, iteN' (fun c2 => ?_) (fun c2 => ?_)⟩
            · obtain ⟨xb, hxb⟩ := Option.isSome_iff_exists.mp c2
              refine ⟨_, rfl, _, _, rfl, rfl, _, rfl, iteD (fun c3 => ?_) (fun c3 => ?_)⟩
              · obtain ⟨m, rfl⟩ : ∃ m, i = m + 1 := ⟨i - 1, by omega⟩
                have hwm := hb m (by omega)
                obtain ⟨dm, hdm⟩ : ∃ dm, ds[m]? = some dm := ⟨ds[m]'(by omega), List.getElem?_eq_getElem (by omega)⟩
                obtain ⟨z, hz, hDz⟩ := ha.getD hdm
                have hgm : ds.getD m .none = dm := by rw [List.getD_eq_getElem?_getD, hdm]; rfl
                obtain ⟨ym, hym⟩ : ∃ ym, barOf dm = some ym := by
                  unfold wrongAt at hwm
                  rw [hgm] at hwm
                  cases hbo : barOf dm with
                  | none => rw [hbo] at hwm; cases hwm
                  | some z => exact ⟨z, rfl⟩
                have hw : wrongAt ds (m + 1) = ltB xb ym := by
                  unfold wrongAt
                  rw [hgi, hxb]
                  show (match barOf (ds.getD m .none) with | none => false | some y => ltB xb y) = _
                  rw [hgm, hym]
                obtain ⟨rfl, _⟩ := barOf_some hxb
                obtain ⟨rfl, _⟩ := barOf_some hym
                obtain ⟨ta, rfl, sa⟩ := dp_bar hDy'
                obtain ⟨tb, rfl, sb⟩ := dp_bar (hDz.up (e.trans eT))
                refine ⟨_, rfl, _, rfl, _, rfl, _, _, rfl, rfl, a, xs, _, _, rfl, rfl, ex_t (e.trans eT) hs, at_of (by omega) hz, ta, tb, _, _, rfl, rfl, sa, sb, _, rfl, iteB (fun c4 => ?_) (fun c4 => ?_)⟩
                · refine ⟨_, rfl, h2, fun t ht => bad (hw.trans c4) t _ ((e.trans eT).trans (Ex.new ht)) upd_same⟩
                · refine ⟨some (.int ((m + 1 : Nat) : Int)), some (.ref ta), rfl, e.trans eT, fun j hj => ?_⟩
                  by_cases hjm : j < m + 1
                  · exact hb j hjm
                  · have : j = m + 1 := by omega
                    rw [this]
                    exact hw.trans c4
              · have hi0 : i = 0 := by omega
                subst hi0
                refine iteF ⟨some (.int ((0 : Nat) : Int)), some y, rfl, e.trans eT, fun j hj => ?_⟩
                have : j = 0 := by omega
                subst this
                unfold wrongAt
                rw [hgi, hxb]
            · refine ⟨_, rfl, h2, fun t ht => bad ?_ t _ ((e.trans eT).trans (Ex.new ht)) upd_same⟩
              unfold wrongAt
              rw [hgi]
              cases hbo : barOf di with
              | none => rfl
              | some z => rw [hbo] at c2; cases c2
          · rintro σ H' ⟨v1, v2, rfl, e, hb⟩
            refine q0 ?_ H' e
            show (if 80 < ds.length then _ else _) = _
            rw [if_neg hn80, firstBad, find_never (by rw [← hl]; exact hb)]
            rfl
      | _ => cases c0
    · refine ⟨_, rfl, h2, fun t ht => q1 ("BadBars", -1) (nt c0) t _ (Ex.new ht) upd_same⟩
end
end K22
end
section
set_option Elab.async false
set_option linter.all false
set_option maxRecDepth 100000
set_option maxHeartbeats 4000000
namespace K22
open PySem PySem.Spec PyProof.Rows L2 LB Evl
def spAskedB (K : PySem.W.Frag) (cl : Str → Addr) : Sp := fun vs H Q E => ∃ (v : V) (d : PyData), vs = [v] ∧ Dp K H v d ∧ (faultD d = none → ∀ H', Ex H H' → Q .non H') ∧
  ∀ p, faultD d = some p → ∀ (H' : Hp) (x : Addr), Ex H H' → H' x = none → E (.ref (cl p.1)) (some x) (upd H' x (.xd [("what", .int p.2)]))
theorem fault_cls {d : PyData} {p : Str × Int} (h : faultD d = some p) : p.1 = "TooMany" ∨ p.1 = "BadBars" := by
  unfold faultD at h
  split at h
  · split at h
    · cases h; exact Or.inl rfl
    · obtain ⟨i, _, rfl⟩ := Option.map_eq_some_iff.mp h
      exact Or.inr rfl
  · cases h; exact Or.inr rfl
/-- every class that is raised here -/
def XAll (K : PySem.W.Frag) (mg : Str → Option Value) (cl : Str → Addr) (fI : Addr) (cs : List Str) : Prop := ∀ c ∈ cs, XCl K mg c (cl c) fI
abbrev cls4 : List Str := ["BadMany", "TooMany", "BadBars", "BadIndex"]
section
variable {P : Program} {w : World} {K : PySem.W.Frag} {mg : Str → Option Value} {base : Heap} {cl : Str → Addr} {fI : Addr}
theorem ok_asked_bars (D : Dn K mg "asked_bars" s_asked_bars ["thing"]) (XA : XAll K mg cl fI cls4) (iI : InitOk P w K mg base fI) (f_bars_wrong : Cal P w K mg base 3 "bars_wrong" (spFault K)) : CalX P w K mg base 4 "asked_bars" (spAskedB K cl) := by
  refine calx_of D sc_asked_bars (fun vs H Q E h => ?_) (fun f cdv A outer s H vs Q E hr h => ?_)
  · obtain ⟨v, d, rfl, _⟩ := h
    rfl
  · obtain ⟨v, d, rfl, hd, q0, q1⟩ := h
    refine ⟨_, (pss_cons (ps_set (i := 1) sc_asked_bars.nd rfl (Or.inl rfl) (LB.pe_c f_bars_wrong hr (by decide) (by rfl) (pa_cons (pv 0) pa_nil)))
      (pss_one (ps_if (pt_cmp (pc_notN (pv 1)) rfl) (pss_cons (ps_if (pt_cmpR op_eq (pe_ix ix_tup (pv 1) pe_int (fun _ _ => rfl)) pe_str (nomark _)) (pss_one (ps_raiseX rfl (L2N.takes_of rfl rfl rfl rfl) (XA "TooMany" (by simp)) iI hr (by decide) (by rfl) (pe_ix ix_tup (pv 1) pe_int (fun _ _ => rfl)))) pss_nil)
      (pss_one (ps_raiseX rfl (L2N.takes_of rfl rfl rfl rfl) (XA "BadBars" (by simp)) iI hr (by decide) (by rfl) (pe_ix ix_tup (pv 1) pe_int (fun _ _ => rfl))))) pss_nil))), ?_⟩
    refine ⟨_, rfl, v, d, rfl, hd, fun h0 H1 e1 => ?_, fun p hp t H1 e1 ht => ?_⟩
    · exact ⟨_, rfl, _, rfl, iteF (q0 h0 H1 e1)⟩
    · refine ⟨_, rfl, _, rfl, iteT ?_⟩
      have sq : SqT K H1 t [V.str p.1, V.int p.2] := Or.inl (Or.inl ht)
      have g1 : atI [V.str p.1, V.int p.2] 1 = some (V.int p.2) := atI_nat (j := 1) rfl
      have fin : ∀ x, H1 x = none → E (.ref (cl p.1)) (some x) (upd H1 x (.xd [("what", .int p.2)])) := fun x hx => q1 p hp H1 x e1 hx
      refine ⟨_, rfl, t, _, _, _, rfl, rfl, sq, atI_nat (j := 0) rfl, rfl, _, rfl, iteD (fun c0 => ?_) (fun c0 => ?_)⟩
      · have e : p.1 = "TooMany" := by injection c0
        rw [e] at fin
        exact ⟨_, rfl, t, _, _, _, rfl, rfl, sq, g1, mk_ref (XA "TooMany" (by simp)) fin⟩
      · have e : p.1 = "BadBars" := (fault_cls hp).resolve_left fun z => c0 (by rw [z])
        rw [e] at fin
        exact ⟨_, rfl, t, _, _, _, rfl, rfl, sq, g1, mk_ref (XA "BadBars" (by simp)) fin⟩
end
end K22
end
section
set_option Elab.async false
set_option linter.all false
set_option maxRecDepth 100000
set_option maxHeartbeats 4000000
namespace K22
open PySem PySem.Spec PyProof.Rows L2 LB Evl
theorem take_at {α : Type} {l : List α} {i : Nat} {x : α} (h : l[i]? = some x) : l.take (i + 1) = l.take i ++ [x] := by rw [List.take_add_one, h]; rfl
def barsD (bs : List Bar) : PyData := .tuple (bs.map barD)
/-- bars as they must be -/
structure BarsOk (bs : List Bar) : Prop where
  good : ∀ x ∈ bs, goodB x = true
  srt : ∀ (i : Nat) (x y : Bar), bs[i]? = some x → bs[i + 1]? = some y → ltB y x = false
  len : bs.length ≤ 80
theorem all_bars : ∀ {ds : List PyData}, (∀ d ∈ ds, ∃ x, barOf d = some x) → ∃ bs : List Bar, ds = bs.map barD ∧ ∀ x ∈ bs, goodB x = true
  | [], _ => ⟨[], rfl, fun x h => by cases h⟩
  | d :: ds, h => by
    obtain ⟨x, hx⟩ := h d List.mem_cons_self
    obtain ⟨bs, e, hb⟩ := all_bars (ds := ds) fun y hy => h y (List.mem_cons_of_mem _ hy)
    obtain ⟨rfl, hg⟩ := barOf_some hx
    refine ⟨x :: bs, by rw [List.map_cons, e], fun y hy => ?_⟩
    rcases List.mem_cons.mp hy with z | z
    · rw [z]; exact hg
    · exact hb y z
theorem fault_none {d : PyData} (h : faultD d = none) : ∃ bs, d = barsD bs ∧ BarsOk bs := by
  unfold faultD at h
  split at h
  · rename_i ds
    split at h
    · cases h
    · rename_i hl
      have hf : firstBad ds = none := by
        cases hfb : firstBad ds with
        | none => rfl
        | some i => rw [hfb] at h; cases h
      unfold firstBad at hf
      rw [List.find?_eq_none] at hf
      have hw : ∀ i, i < ds.length → wrongAt ds i = false := fun i hi => by
        have := hf i (List.mem_range.mpr hi)
        simpa using this
      have hb : ∀ d ∈ ds, ∃ x, barOf d = some x := fun d hd => by
        obtain ⟨i, hi⟩ := List.mem_iff_getElem?.mp hd
        have h1 := hw i (List.getElem?_eq_some_iff.mp hi).1
        unfold wrongAt at h1
        rw [List.getD_eq_getElem?_getD, hi] at h1
        cases hbo : barOf d with
        | none =>
          have : barOf ((some d).getD .none) = none := hbo
          rw [this] at h1
          cases h1
        | some x => exact ⟨x, rfl⟩
      obtain ⟨bs, rfl, hg⟩ := all_bars hb
      refine ⟨bs, rfl, hg, fun i x y hx hy => ?_, by rw [List.length_map] at hl; omega⟩
      have hi := (List.getElem?_eq_some_iff.mp hy).1
      have h1 := hw (i + 1) (by rw [List.length_map]; exact hi)
      unfold wrongAt at h1
      have ey : (bs.map barD).getD (i + 1) .none = barD y := by rw [List.getD_eq_getElem?_getD, List.getElem?_map, hy]; rfl
      have ex : (bs.map barD).getD i .none = barD x := by rw [List.getD_eq_getElem?_getD, List.getElem?_map, hx]; rfl
      rw [ey, barOf_bar (hg y (List.mem_of_getElem? hy))] at h1
      have h1' : (match barOf ((bs.map barD).getD i .none) with | none => false | some z => ltB y z) = false := h1
      rw [ex, barOf_bar (hg x (List.mem_of_getElem? hx))] at h1'
      exact h1'
  · cases h
theorem fault_ok {bs : List Bar} (h : BarsOk bs) : faultD (barsD bs) = none := by
  show (if 80 < (bs.map barD).length then _ else _) = _
  rw [if_neg (by rw [List.length_map]; have := h.len; omega), firstBad, find_never]
  · rfl
  · intro j hj
    rw [List.length_map] at hj
    have ej : (bs.map barD).getD j .none = barD bs[j] := by rw [List.getD_eq_getElem?_getD, List.getElem?_map, List.getElem?_eq_getElem hj]; rfl
    have hg := h.good bs[j] (List.getElem_mem hj)
    unfold wrongAt
    rw [ej, barOf_bar hg]
    cases j with
    | zero => rfl
    | succ m =>
      have hm : m < bs.length := by omega
      have em : (bs.map barD).getD m .none = barD bs[m] := by rw [List.getD_eq_getElem?_getD, List.getElem?_map, List.getElem?_eq_getElem hm]; rfl
      show (match barOf ((bs.map barD).getD m .none) with | none => false | some y => ltB bs[m + 1] y) = false
      rw [em, barOf_bar (h.good bs[m] (List.getElem_mem hm))]
      exact h.srt m _ _ (List.getElem?_eq_getElem hm) (List.getElem?_eq_getElem hj)
/-- a tuple of bars, held -/
theorem dp_bars {K : PySem.W.Frag} {H : Hp} {v : V} {bs : List Bar} (h : Dp K H v (barsD bs)) : ∃ t xs, v = .ref t ∧ SqT K H t xs ∧ DpAll K H xs (bs.map barD) := by
  cases h with
  | tup hs hd => exact ⟨_, _, rfl, hs, hd⟩
theorem dp_bar_get {K : PySem.W.Frag} {H : Hp} {xs : List V} {bs : List Bar} {i : Nat} {x : V} (h : DpAll K H xs (bs.map barD)) (hx : xs[i]? = some x) : ∃ b t, bs[i]? = some b ∧ x = .ref t ∧ SqT K H t ([b.1, b.2.1, b.2.2].map V.int) ∧ Dp K H x (barD b) := by
  obtain ⟨d, h1, h2⟩ := h.get hx
  rw [List.getElem?_map] at h1
  obtain ⟨b, hb, rfl⟩ := Option.map_eq_some_iff.mp h1
  obtain ⟨t, ht, hs⟩ := dp_bar h2
  exact ⟨b, t, hb, ht, hs, h2⟩
def oMade (d : PyData) : Out := match faultD d with
  | some p => .bad p.1 (.int p.2)
  | none => .told d
def spMade (K : PySem.W.Frag) (cl : Str → Addr) : Sp := fun vs H Q E => ∃ (v : V) (d : PyData), vs = [v] ∧ Dp K H v d ∧ outE K cl (oMade d) H Q E
section
variable {P : Program} {w : World} {K : PySem.W.Frag} {mg : Str → Option Value} {base : Heap} {cl : Str → Addr} {fI : Addr}
theorem asked_use {v : V} {d : PyData} {H : Hp} {Q : VK} {E : XK} (hd : Dp K H v d) (q0 : ∀ bs, d = barsD bs → BarsOk bs → ∀ H', Ex H H' → Q .non H') (q1 : ∀ p, faultD d = some p → outE K cl (.bad p.1 (.int p.2)) H Q E) : spAskedB K cl [v] H Q E := by
  refine ⟨v, d, rfl, hd, fun h H' e => ?_, fun p hp H' x e hx => q1 p hp H' x (.int p.2) e hx (.int _)⟩
  obtain ⟨bs, e1, ok⟩ := fault_none h
  exact q0 bs e1 ok H' e
theorem ok_made_bars (D : Dn K mg "made_bars" s_made_bars ["thing"]) (T : Bt mg) (f_asked_bars : CalX P w K mg base 4 "asked_bars" (spAskedB K cl)) : CalX P w K mg base 5 "made_bars" (spMade K cl) := by
  refine calx_of D sc_made_bars (fun vs H Q E h => ?_) (fun f cdv A outer s H vs Q E hr h => ?_)
  · obtain ⟨v, d, rfl, _⟩ := h
    rfl
  · obtain ⟨v, d, rfl, hd, q⟩ := h
    refine ⟨_, (pss_cons (ps_expr (LB.pe_cE (L2N.takes_of rfl rfl rfl rfl) f_asked_bars hr (by decide) (by rfl) (pa_cons (pv 0) pa_nil)))
      (pss_one (ps_ret (pe_callTy call_tuple_of (by rfl) T.m_tuple (by decide +kernel) (pa_cons (pe_lc (own := [("k", 1), ("b", 2), ("d", 3)]) rfl sc_made_bars.nd (pi_tup (pv 0)) (blkOk_by (N := ["thing", "k", "b", "d"]) (sc := defScope s_made_bars) (by decide +kernel)) (fun _ _ _ _ _ => (LB.pg_tupK (K := K) 3 rfl rfl (pgs_cons (pg_name (i := 1) sc_made_bars.nd rfl (Or.inl rfl)) (pgs_cons (pg_name (i := 2) sc_made_bars.nd rfl (Or.inl rfl)) (pgs_cons (pg_name (i := 3) sc_made_bars.nd rfl (Or.inl rfl)) pgs_nil))))) (fun _ _ _ _ _ => pts_nil) (fun _ _ _ _ _ => (pe_tup (pa_cons (pv 1) (pa_cons (pv 2) (pa_cons (pv 3) pa_nil)))))) pa_nil))))), ?_⟩
    refine ⟨_, rfl, ?_⟩
    dsimp only [tNil, List.cons_append, List.nil_append]
    refine asked_use hd (fun bs hbs ok H1 e1 => ?_) (fun p hp => ?_)
    · subst hbs
      have q' : outE K cl (.told (barsD bs)) H Q E := by
        have : oMade (barsD bs) = .told (barsD bs) := by unfold oMade; rw [fault_ok ok]
        rw [this] at q
        exact q
      obtain ⟨t, xs, rfl, hs, ha⟩ := dp_bars hd
      have hl : xs.length = bs.length := by rw [ha.len, List.length_map]
      have hl80 := ok.len
      have h3 : 3 ≤ sizeLine := by decide
      refine ⟨_, rfl, t, rfl, ⟨xs, ex_t e1 hs⟩, fun Dl hDl => lc_tup (K := K) (a := t) (xs := xs) (fun i H2 => Ex H1 H2 ∧ ∃ acc, H2 Dl = some (.lst acc) ∧ DpAll K (cut [Dl] H2) acc ((bs.take i).map barD)) ⟨Ex.new hDl, [], upd_same, .nil⟩ (fun i H2 _ ⟨e2, _⟩ => ex_t (e1.trans e2) hs) ?_ ?_⟩
      · rintro i x H2 hx ⟨e2, acc, h2, hacc⟩
        obtain ⟨b, u, hb, rfl, hst, _⟩ := dp_bar_get ha hx
        refine ⟨u, _, rfl, ex_t (e1.trans e2) hst, rfl, _, _, rfl, _, _, rfl, _, _, rfl, rfl, rfl, _, rfl, _, rfl, _, rfl, h3, fun r hr2 => ?_⟩
        have nrD : r ≠ Dl := fun z0 => by rw [z0, h2] at hr2; cases hr2
        have e3 := Ex.new (o := .tup [V.int b.1, V.int b.2.1, V.int b.2.2]) hr2
        have hal : acc.length ≤ 80 := by rw [hacc.len, List.length_map, List.length_take]; omega
        refine ⟨acc, e3 _ _ h2, Evl.sz_lt (by omega), (e2.trans e3).mut (p := Dl) hDl, acc ++ [.ref r], upd_same, ?_⟩
        rw [take_at hb, List.map_append]
        refine (hacc.up ?_).app (.cons (.tup (Or.inl (Or.inl ?_)) (.cons (.int _) (.cons (.int _) (.cons (.int _) .nil)))) .nil)
        · exact But.cut ((But.of e3).trans (But.put (by simp)))
        · rw [cut_out (by simpa using nrD), upd_ne nrD, upd_same]
      · rintro H2 ⟨e2, acc, h2, hacc⟩
        rw [hl, List.take_length] at hacc
        refine ⟨Dl, acc, rfl, Or.inl ⟨Or.inl (Or.inl h2), fun l hl2 => ?_⟩⟩
        have e3 := Ex.new (o := .tup acc) hl2
        exact q' (.ref l) _ ((e1.trans e2).trans e3) (.tup (Or.inl (Or.inl upd_same)) ((hacc.up ex_cut).up e3))
    · have : oMade d = .bad p.1 (.int p.2) := by unfold oMade; rw [hp]
      rw [this] at q
      exact q
end
end K22
end
section
set_option Elab.async false
set_option linter.all false
set_option maxRecDepth 100000
set_option maxHeartbeats 4000000
namespace K22
open PySem PySem.Spec PyProof.Rows L2 LB Evl
def absI (i : Int) : Int := if i < 0 then -i else i
def maxI (i j : Int) : Int := if j > i then j else i
def costB (x y : Bar) : Option Int := if (!decide (V.int x.1 = V.int y.1)) = true then none else if (!decide (V.bl (decide (V.int x.2.2 = V.int (-1))) = V.bl (decide (V.int y.2.2 = V.int (-1))))) = true then none else some (2 * maxI (absI (x.2.1 - y.2.1)) (absI (x.2.2 - y.2.2)))
def optV : Option Int → V
  | none => .non
  | some i => .int i
def nearB (x y : Bar) (w : Int) : Bool := match costB x y with
  | none => false
  | some c => decide (c ≤ w)
def laterB (b : Bar) (x : Int) : Bar := (b.1, b.2.1 + x, if b.2.2 = -1 then -1 else b.2.2 + x)
def spCost (K : PySem.W.Frag) : Sp := fun vs H Q _ => ∃ (v u : V) (x y : Bar), vs = [v, u] ∧ Dp K H v (barD x) ∧ Dp K H u (barD y) ∧ Q (optV (costB x y)) H
def spNear (K : PySem.W.Frag) : Sp := fun vs H Q _ => ∃ (v u : V) (x y : Bar) (w : Int), vs = [v, u, .int w] ∧ Dp K H v (barD x) ∧ Dp K H u (barD y) ∧ Q (.bl (nearB x y w)) H
def spLater (K : PySem.W.Frag) : Sp := fun vs H Q _ => ∃ (v : V) (b : Bar) (x : Int), vs = [v, .int x] ∧ Dp K H v (barD b) ∧ ∀ (t : Addr) (H' : Hp), H t = none → H' = upd H t (.tup ([(laterB b x).1, (laterB b x).2.1, (laterB b x).2.2].map V.int)) → Q (.ref t) H'
theorem ix3 (x : Bar) : atI ([x.1, x.2.1, x.2.2].map V.int) 0 = some (V.int x.1) ∧ atI ([x.1, x.2.1, x.2.2].map V.int) 1 = some (V.int x.2.1) ∧ atI ([x.1, x.2.1, x.2.2].map V.int) 2 = some (V.int x.2.2) := ⟨atI_nat (j := 0) rfl, atI_nat (j := 1) rfl, atI_nat (j := 2) rfl⟩
section
variable {P : Program} {w : World} {K : PySem.W.Frag} {mg : Str → Option Value} {base : Heap} {cl : Str → Addr} {fI : Addr}
theorem ok_cost (D : Dn K mg "cost" s_cost ["one", "two"]) (T : Bt mg) : Cal P w K mg base 1 "cost" (spCost K) := by
  refine cal_of D sc_cost (fun vs H Q E h => ?_) (fun f cdv A outer s H vs Q E hr h => ?_)
  · obtain ⟨v, u, x, y, rfl, _⟩ := h
    rfl
  · obtain ⟨v, u, x, y, rfl, hx, hy, q⟩ := h
    refine ⟨_, (pss_cons (ps_if (PW.pt (pw_or (pt_cmpR op_ne (pe_ix ix_tup (pv 0) pe_int (fun _ _ => rfl)) (pe_ix ix_tup (pv 1) pe_int (fun _ _ => rfl)) (nomark _)) (pw_or1 (pt_cmpR op_ne (pe_cmpR op_eq (pe_ix ix_tup (pv 0) pe_int (fun _ _ => rfl)) (C8.pe_gc (by rfl) T.c_ENDLESS) (nomark _)) (pe_cmpR op_eq (pe_ix ix_tup (pv 1) pe_int (fun _ _ => rfl)) (C8.pe_gc (by rfl) T.c_ENDLESS) (nomark _)) (nomark _))))) (pss_one (ps_ret pe_non)) pss_nil)
      (pss_cons (ps_par (i := 2) (j := 3) (by rfl) sc_cost.nd rfl rfl (by decide) rfl rfl (pa_cons (pe_callB call_abs (by rfl) T.m_abs (by decide +kernel) (pa_cons (pe_op op_sub (pe_callTy call_int1 (by rfl) T.m_int (by decide +kernel) (pa_cons (pe_ix ix_tup (pv 0) pe_int (fun _ _ => rfl)) pa_nil)) (pe_callTy call_int1 (by rfl) T.m_int (by decide +kernel) (pa_cons (pe_ix ix_tup (pv 1) pe_int (fun _ _ => rfl)) pa_nil))) pa_nil)) (pa_cons (pe_callB call_abs (by rfl) T.m_abs (by decide +kernel) (pa_cons (pe_op op_sub (pe_callTy call_int1 (by rfl) T.m_int (by decide +kernel) (pa_cons (pe_ix ix_tup (pv 0) pe_int (fun _ _ => rfl)) pa_nil)) (pe_callTy call_int1 (by rfl) T.m_int (by decide +kernel) (pa_cons (pe_ix ix_tup (pv 1) pe_int (fun _ _ => rfl)) pa_nil))) pa_nil)) pa_nil)) (by rfl))
      (pss_one (ps_ret (pe_op op_mul pe_int (pe_callB (call_max2 rfl) (by rfl) T.m_max (by decide +kernel) (pa_cons (pv 2) (pa_cons (pv 3) pa_nil)))))))), ?_⟩
    obtain ⟨t, rfl, sx⟩ := dp_bar hx
    obtain ⟨r, rfl, sy⟩ := dp_bar hy
    obtain ⟨a0, a1, a2⟩ := ix3 x
    obtain ⟨b0, b1, b2⟩ := ix3 y
    refine ⟨_, rfl, t, _, _, _, rfl, rfl, sx, a0, _, rfl, r, _, _, _, rfl, rfl, sy, b0, rfl, _, rfl, ?_⟩
    unfold costB at q
    cases h1 : (!decide (V.int x.1 = V.int y.1)) with
    | true =>
      rw [h1, if_pos rfl] at q
      exact iteT q
    | false =>
      rw [h1, if_neg (by decide)] at q
      refine iteF ⟨_, rfl, t, _, _, _, rfl, rfl, sx, a2, rfl, _, rfl, r, _, _, _, rfl, rfl, sy, b2, rfl, rfl, _, rfl, ?_⟩
      cases h2 : (!decide (V.bl (decide (V.int x.2.2 = V.int (-1))) = V.bl (decide (V.int y.2.2 = V.int (-1))))) with
      | true =>
        rw [h2, if_pos rfl] at q
        exact iteT q
      | false =>
        rw [h2, if_neg (by decide)] at q
        exact iteF ⟨_, rfl, t, _, _, _, rfl, rfl, sx, a1, Or.inl ⟨_, rfl, _, rfl, r, _, _, _, rfl, rfl, sy, b1, Or.inl ⟨_, rfl, _, _, rfl, rfl, _, rfl, _, rfl, t, _, _, _, rfl, rfl, sx, a2, Or.inl ⟨_, rfl, _, rfl, r, _, _, _, rfl, rfl, sy, b2, Or.inl ⟨_, rfl, _, _, rfl, rfl, _, rfl, _, _, rfl, _, rfl, _, rfl, _, _, rfl, _, _, rfl, rfl, Or.inl ⟨by decide, by decide⟩, q⟩⟩⟩⟩⟩
theorem ok_is_near (D : Dn K mg "is_near" s_is_near ["x", "y", "w"]) (f_cost : Cal P w K mg base 1 "cost" (spCost K)) : Cal P w K mg base 2 "is_near" (spNear K) := by
  refine cal_of D sc_is_near (fun vs H Q E h => ?_) (fun f cdv A outer s H vs Q E hr h => ?_)
  · obtain ⟨v, u, x, y, w, rfl, _⟩ := h
    rfl
  · obtain ⟨v, u, x, y, w, rfl, hx, hy, q⟩ := h
    refine ⟨_, (pss_cons (ps_set (i := 3) sc_is_near.nd rfl (Or.inl rfl) (LB.pe_c f_cost hr (by decide) (by rfl) (pa_cons (pv 0) (pa_cons (pv 1) pa_nil))))
      (pss_one (ps_ret (pe_and (pe_cmp (pc_notN (pv 3)) rfl) (pe_one (pe_cmpR op_le (pv 3) (pv 2) (nomark _))))))), ?_⟩
    refine ⟨_, rfl, _, rfl, v, u, x, y, rfl, hx, hy, ?_⟩
    unfold nearB at q
    cases hc : costB x y with
    | none =>
      rw [hc] at q
      exact ⟨_, rfl, _, rfl, iteF q⟩
    | some c =>
      rw [hc] at q
      exact ⟨_, rfl, _, rfl, iteT ⟨_, rfl, _, rfl, _, _, rfl, rfl, q⟩⟩
theorem ok_later_bar (D : Dn K mg "later_bar" s_later_bar ["bar", "x"]) (T : Bt mg) : Cal P w K mg base 1 "later_bar" (spLater K) := by
  refine cal_of D sc_later_bar (fun vs H Q E h => ?_) (fun f cdv A outer s H vs Q E hr h => ?_)
  · obtain ⟨v, b, x, rfl, _⟩ := h
    rfl
  · obtain ⟨v, b, x, rfl, hb, q⟩ := h
    refine ⟨_, (pss_one (ps_ret (pe_tup (pa_cons (pe_ix ix_tup (pv 0) pe_int (fun _ _ => rfl)) (pa_cons (pe_op op_add (pe_ix ix_tup (pv 0) pe_int (fun _ _ => rfl)) (pv 1)) (pa_cons (pe_ifExp (pt_cmpR op_eq (pe_ix ix_tup (pv 0) pe_int (fun _ _ => rfl)) (C8.pe_gc (by rfl) T.c_ENDLESS) (nomark _)) (C8.pe_gc (by rfl) T.c_ENDLESS) (pe_op op_add (pe_ix ix_tup (pv 0) pe_int (fun _ _ => rfl)) (pv 1))) pa_nil)))))), ?_⟩
    obtain ⟨t, rfl, sx⟩ := dp_bar hb
    obtain ⟨a0, a1, a2⟩ := ix3 b
    have h3 : 3 ≤ sizeLine := by decide
    refine ⟨_, rfl, t, _, _, _, rfl, rfl, sx, a0, _, rfl, t, _, _, _, rfl, rfl, sx, a1, _, rfl, _, _, rfl, rfl, _, rfl, t, _, _, _, rfl, rfl, sx, a2, rfl, _, rfl, ?_⟩
    unfold laterB at q
    refine iteD (fun c => ?_) (fun c => ?_)
    · have e : b.2.2 = -1 := by injection c
      rw [if_pos e] at q
      exact ⟨h3, fun r hr2 => q r _ hr2 rfl⟩
    · have e : ¬ b.2.2 = -1 := fun z => c (by rw [z])
      rw [if_neg e] at q
      exact ⟨_, rfl, t, _, _, _, rfl, rfl, sx, a2, _, rfl, _, _, rfl, rfl, h3, fun r hr2 => q r _ hr2 rfl⟩
end
end K22
end
section
set_option Elab.async false
set_option linter.all false
set_option maxRecDepth 100000
set_option maxHeartbeats 4000000
namespace K22
open PySem PySem.Spec PyProof.Rows L2 LB Evl
def intOf : PyData → Int
  | .int i => i
  | _ => 0
def barsOf : PyData → List Bar
  | .tuple ds => ds.filterMap barOf
  | _ => []
theorem barsOf_bars {bs : List Bar} (h : ∀ x ∈ bs, goodB x = true) : barsOf (barsD bs) = bs := by
  show (bs.map barD).filterMap barOf = bs
  induction bs with
  | nil => rfl
  | cons x bs ih =>
    rw [List.map_cons, List.filterMap_cons, barOf_bar (h x List.mem_cons_self), ih fun y hy => h y (List.mem_cons_of_mem _ hy)]
def oBars (d : PyData) (k : List Bar → Out) : Out := match faultD d with
  | some p => .bad p.1 (.int p.2)
  | none => k (barsOf d)
def oMany (d : PyData) (lo hi : Int) (o : Out) : Out := if wholeB d lo hi = true then o else .bad "BadMany" d
section
variable {K : PySem.W.Frag} {cl : Str → Addr}
theorem asked_out {v : V} {d : PyData} {H : Hp} {Q Q1 : VK} {E : XK} {k : List Bar → Out} (hd : Dp K H v d) (q : outE K cl (oBars d k) H Q E) (next : ∀ bs, d = barsD bs → BarsOk bs → ∀ H', Ex H H' → outE K cl (k bs) H' Q E → Q1 .non H') : spAskedB K cl [v] H Q1 E := by
  refine asked_use hd (fun bs hbs ok H' e => next bs hbs ok H' e ?_) (fun p hp => ?_)
  · subst hbs
    unfold oBars at q
    rw [fault_ok ok, barsOf_bars ok.good] at q
    exact q.up e
  · unfold oBars at q
    rw [hp] at q
    exact q
theorem many_out {v : V} {d : PyData} {lo hi : Int} {H : Hp} {Q Q1 : VK} {E : XK} {o : Out} (hd : Dp K H v d) (q : outE K cl (oMany d lo hi o) H Q E) (next : ∀ i, d = .int i → v = .int i → lo ≤ i → i ≤ hi → outE K cl o H Q E → Q1 .non H) : spAsked K (cl "BadMany") [v, .int lo, .int hi] H Q1 E := by
  refine ⟨v, d, lo, hi, rfl, hd, fun h => ?_, fun h x hx => ?_⟩
  · obtain ⟨i, rfl, h1, h2⟩ := whole_int h
    cases hd
    refine next i rfl rfl h1 h2 ?_
    unfold oMany at q
    rw [if_pos h] at q
    exact q
  · unfold oMany at q
    rw [h, if_neg (by decide)] at q
    exact q H x v (Ex.refl H) hx hd
end
def onB (k s t : Int) (b : Bar) : Bool := decide (V.int b.1 = V.int k) && (decide (b.2.1 ≤ s) && (decide (V.int b.2.2 = V.int (-1)) || decide (b.2.2 > t)))
def countB (bs : List Bar) (k s t : Int) : Nat := (bs.filter (onB k s t)).length
def oCount (d dk ds dt : PyData) : Out := oBars d fun bs => oMany dk 0 5 (oMany ds 0 4000000 (oMany dt (intOf ds) 4000000 (.told (.int (countB bs (intOf dk) (intOf ds) (intOf dt) : Nat)))))
def spCount (K : PySem.W.Frag) (cl : Str → Addr) : Sp := fun vs H Q E => ∃ (v1 v2 v3 v4 : V) (d1 d2 d3 d4 : PyData), vs = [v1, v2, v3, v4] ∧ Dp K H v1 d1 ∧ Dp K H v2 d2 ∧ Dp K H v3 d3 ∧ Dp K H v4 d4 ∧ outE K cl (oCount d1 d2 d3 d4) H Q E
def oFirst (ls : List Bar) : Out := match (List.range ls.length).find? (fun i => !goodB (ls.getD i (0, 0, 0))) with
  | some i => .bad "BadBars" (.int (i : Nat))
  | none => .told (barsD ls)
def oShift (d dx : PyData) : Out := oBars d fun bs => oMany dx 0 4000000 (oFirst (bs.map fun b => laterB b (intOf dx)))
theorem barOf_isSome (b : Bar) : (barOf (barD b)).isSome = goodB b := by
  cases h : goodB b with
  | true => rw [barOf_bar h]; rfl
  | false =>
    show (if goodB (b.1, b.2.1, b.2.2) = true then some (b.1, b.2.1, b.2.2) else none).isSome = false
    rw [if_neg (by rw [show goodB (b.1, b.2.1, b.2.2) = false from h]; decide)]
    rfl
def spShift (K : PySem.W.Frag) (cl : Str → Addr) : Sp := fun vs H Q E => ∃ (v1 v2 : V) (d1 d2 : PyData), vs = [v1, v2] ∧ Dp K H v1 d1 ∧ Dp K H v2 d2 ∧ outE K cl (oShift d1 d2) H Q E
section
variable {P : Program} {w : World} {K : PySem.W.Frag} {mg : Str → Option Value} {base : Heap} {cl : Str → Addr} {fI : Addr}
theorem ok_count_on (D : Dn K mg "count_on" s_count_on ["bars", "k", "s", "t"]) (T : Bt mg) (f_asked_bars : CalX P w K mg base 4 "asked_bars" (spAskedB K cl)) (f_asked_many : CalX P w K mg base 3 "asked_many" (spAsked K (cl "BadMany"))) : CalX P w K mg base 5 "count_on" (spCount K cl) := by
  refine calx_of D sc_count_on (fun vs H Q E h => ?_) (fun f cdv A outer s H vs Q E hr h => ?_)
  · obtain ⟨v1, v2, v3, v4, d1, d2, d3, d4, rfl, _⟩ := h
    rfl
  · obtain ⟨v1, v2, v3, v4, d1, d2, d3, d4, rfl, h1, h2, h3, h4, q⟩ := h
    refine ⟨_, (pss_cons (ps_expr (LB.pe_cE (L2N.takes_of rfl rfl rfl rfl) f_asked_bars hr (by decide) (by rfl) (pa_cons (pv 0) pa_nil)))
      (pss_cons (ps_expr (LB.pe_cE (L2N.takes_of rfl rfl rfl rfl) f_asked_many hr (by decide) (by rfl) (pa_cons (pv 1) (pa_cons pe_int (pa_cons pe_int pa_nil)))))
      (pss_cons (ps_expr (LB.pe_cE (L2N.takes_of rfl rfl rfl rfl) f_asked_many hr (by decide) (by rfl) (pa_cons (pv 2) (pa_cons pe_int (pa_cons (C8.pe_gc (by rfl) T.c_MOST_DATE) pa_nil)))))
      (pss_cons (ps_expr (LB.pe_cE (L2N.takes_of rfl rfl rfl rfl) f_asked_many hr (by decide) (by rfl) (pa_cons (pv 3) (pa_cons (pv 2) (pa_cons (C8.pe_gc (by rfl) T.c_MOST_DATE) pa_nil)))))
      (pss_one (ps_ret (pe_callB call_len_seq (by rfl) T.m_len PySem.boot_len (pa_cons (pe_lc (own := [("bar", 4)]) rfl sc_count_on.nd (pi_tup (pv 0)) (blkOk_by (N := ["bars", "k", "s", "t", "bar"]) (sc := defScope s_count_on) (by decide +kernel)) (fun _ _ _ _ _ => (pg_name (i := 4) sc_count_on.nd rfl (Or.inl rfl))) (fun _ _ _ _ _ => (pts_one (PW.pt (pw_and (pt_cmpR op_eq (pe_ix (ixK_tup (K := K) rfl) (pv 4) pe_int (fun _ _ => rfl)) (pv 1) (nomark _)) (pw_and (pt_cmpR op_le (pe_ix (ixK_tup (K := K) rfl) (pv 4) pe_int (fun _ _ => rfl)) (pv 2) (nomark _)) (pw_and1 (PW.pt (pw_or (pt_cmpR op_eq (pe_ix (ixK_tup (K := K) rfl) (pv 4) pe_int (fun _ _ => rfl)) (C8.pe_gc (by rfl) T.c_ENDLESS) (nomark _)) (pw_or1 (pt_cmpR op_gt (pe_ix (ixK_tup (K := K) rfl) (pv 4) pe_int (fun _ _ => rfl)) (pv 3) (nomark _))))))))))) (fun _ _ _ _ _ => (pv 4))) pa_nil)))))))), ?_⟩
    refine ⟨_, rfl, ?_⟩
    dsimp only [tNil, List.cons_append, List.nil_append]
    refine asked_out h1 q fun bs hbs ok H1 e1 q1 => ?_
    subst hbs
    refine ⟨_, rfl, ?_⟩
    dsimp only [tCons, tC, tNil, List.cons_append, List.nil_append]
    refine many_out (h2.up e1) q1 fun k hk hvk k0 k5 q2 => ?_
    subst hk hvk
    refine ⟨_, rfl, ?_⟩
    dsimp only [tCons, tC, tNil, List.cons_append, List.nil_append]
    refine many_out (h3.up e1) q2 fun s0 hs hvs s1 s2 q3 => ?_
    subst hs hvs
    refine ⟨_, rfl, _, rfl, ?_⟩
    dsimp only [tCons, tC, tNil, List.cons_append, List.nil_append]
    refine many_out (h4.up e1) q3 fun t0 ht hvt t1 t2 q4 => ?_
    subst ht hvt
    obtain ⟨t, xs, rfl, hs, ha⟩ := dp_bars h1
    have hl : xs.length = bs.length := by rw [ha.len, List.length_map]
    have hl80 := ok.len
    refine ⟨_, rfl, t, rfl, ⟨xs, ex_t e1 hs⟩, fun Dl hDl => lc_tup (K := K) (a := t) (xs := xs) (fun i H2 => Ex H1 H2 ∧ ∃ acc, H2 Dl = some (.lst acc) ∧ acc.length = ((bs.take i).filter (onB k s0 t0)).length) ⟨Ex.new hDl, [], upd_same, rfl⟩ (fun i H2 _ ⟨e2, _⟩ => ex_t (e1.trans e2) hs) ?_ ?_⟩
    · rintro i x H2 hx ⟨e2, acc, ha2, hal⟩
      obtain ⟨b, u, hb, rfl, hst, _⟩ := dp_bar_get ha hx
      obtain ⟨a0, a1, a2⟩ := ix3 b
      have sb := ex_t (e1.trans e2) hst
      have hle : acc.length ≤ 80 := by
        rw [hal]
        refine Nat.le_trans (List.length_filter_le _ _) ?_
        rw [List.length_take]
        omega
      have yes : onB k s0 t0 b = true → ∃ acc', upd H2 Dl (.lst (acc ++ [V.ref u])) Dl = some (.lst acc') ∧ acc'.length = ((bs.take (i + 1)).filter (onB k s0 t0)).length := fun hy => by
        refine ⟨_, upd_same, ?_⟩
        rw [take_at hb, List.filter_append, List.filter_cons, if_pos hy, List.length_append, List.length_append, hal]
        rfl
      have no : onB k s0 t0 b = false → acc.length = ((bs.take (i + 1)).filter (onB k s0 t0)).length := fun hy => by
        rw [take_at hb, List.filter_append, List.filter_cons, if_neg (by rw [hy]; decide), List.filter_nil, List.append_nil, hal]
      refine ⟨rfl, _, rfl, u, _, _, _, rfl, rfl, sb, a0, _, rfl, rfl, _, rfl, ?_⟩
      have Y : onB k s0 t0 b = true → acc.length < sizeLine ∧ Ex H1 (upd H2 Dl (.lst (acc ++ [V.ref u]))) ∧ ∃ acc', upd H2 Dl (HO.lst (acc ++ [V.ref u])) Dl = some (HO.lst acc') ∧ acc'.length = ((bs.take (i + 1)).filter (onB k s0 t0)).length := fun h => ⟨Evl.sz_lt (by omega), e2.mut (p := Dl) hDl, yes h⟩
      cases c1 : decide (V.int b.1 = V.int k) with
      | false => exact iteF (iteF ⟨e2, acc, ha2, no (by unfold onB; rw [c1]; rfl)⟩)
      | true =>
        refine iteT ⟨_, rfl, u, _, _, _, rfl, rfl, sb, a1, _, rfl, _, _, rfl, rfl, _, rfl, ?_⟩
        cases c2 : decide (b.2.1 ≤ s0) with
        | false => exact iteF (iteF ⟨e2, acc, ha2, no (by unfold onB; rw [c1, c2]; rfl)⟩)
        | true =>
          refine iteT ⟨_, rfl, u, _, _, _, rfl, rfl, sb, a2, rfl, _, rfl, ?_⟩
          cases c3 : decide (V.int b.2.2 = V.int (-1)) with
          | true => exact iteT (iteT ⟨_, rfl, acc, ha2, Y (by unfold onB; rw [c1, c2, c3]; rfl)⟩)
          | false =>
            refine iteF ⟨_, rfl, u, _, _, _, rfl, rfl, sb, a2, _, rfl, _, _, rfl, rfl, _, rfl, ?_⟩
            cases c4 : decide (t0 < b.2.2) with
            | true => exact iteT ⟨_, rfl, acc, ha2, Y (by unfold onB; rw [c1, c2, c3]; exact c4)⟩
            | false => exact iteF ⟨e2, acc, ha2, no (by unfold onB; rw [c1, c2, c3]; exact c4)⟩
    · rintro H2 ⟨e2, acc, ha2, hal⟩
      rw [hl, List.take_length] at hal
      refine ⟨Dl, acc, rfl, Or.inl (Or.inl (Or.inl ha2)), ?_⟩
      rw [hal]
      exact q4 _ _ e2 (.int _)
theorem ok_shifted (D : Dn K mg "shifted" s_shifted ["bars", "x"]) (T : Bt mg) (XA : XAll K mg cl fI cls4) (iI : InitOk P w K mg base fI) (f_asked_bars : CalX P w K mg base 4 "asked_bars" (spAskedB K cl)) (f_asked_many : CalX P w K mg base 3 "asked_many" (spAsked K (cl "BadMany"))) (f_later_bar : Cal P w K mg base 1 "later_bar" (spLater K)) (f_is_bar : Cal P w K mg base 2 "is_bar" (spIsBar K)) : CalX P w K mg base 5 "shifted" (spShift K cl) := by
  refine calx_of D sc_shifted (fun vs H Q E h => ?_) (fun f cdv A outer s H vs Q E hr h => ?_)
  · obtain ⟨v1, v2, d1, d2, rfl, _⟩ := h
    rfl
  · obtain ⟨v1, v2, d1, d2, rfl, h1, h2, q⟩ := h
    refine ⟨_, (pss_cons (ps_expr (LB.pe_cE (L2N.takes_of rfl rfl rfl rfl) f_asked_bars hr (by decide) (by rfl) (pa_cons (pv 0) pa_nil)))
      (pss_cons (ps_expr (LB.pe_cE (L2N.takes_of rfl rfl rfl rfl) f_asked_many hr (by decide) (by rfl) (pa_cons (pv 1) (pa_cons pe_int (pa_cons (C8.pe_gc (by rfl) T.c_MOST_DATE) pa_nil)))))
      (pss_cons (ps_setLc (i := 2) rfl sc_shifted.nd rfl rfl (sw_true rfl rfl rfl (by decide +kernel)) (own := [("bar", 3)]) (pi_tup (pv 0)) (blkOk_by (N := ["bars", "x", "found", "bar", "index"]) (sc := defScope s_shifted) (by decide +kernel)) (fun _ _ _ _ _ => (pg_name (i := 3) sc_shifted.nd rfl (Or.inl rfl))) (fun _ _ _ _ _ => pts_nil) (fun _ _ _ _ _ => (LB.pe_c f_later_bar hr (by decide) (by rfl) (pa_cons (pv 3) (pa_cons (pv 1) pa_nil)))))
      (pss_cons (ps_for (passes_of rfl) rfl (pi_enum (by rfl) T.m_enumerate (pa_cons (pv 2) pa_nil)) (pg_tup rfl (pgs_cons (pg_name (i := 4) sc_shifted.nd rfl (Or.inl rfl)) (pgs_cons (pg_name (i := 3) sc_shifted.nd rfl (Or.inl rfl)) pgs_nil))) (pss_one (ps_if (pt_not (pt_val (LB.pe_c f_is_bar hr (by decide) (by rfl) (pa_cons (pv 3) pa_nil)))) (pss_one (ps_raiseX rfl (L2N.takes_of rfl rfl rfl rfl) (XA "BadBars" (by simp)) iI hr (by decide) (by rfl) (pv 4))) pss_nil)))
      (pss_one (ps_ret (pe_callTy call_tuple_of (by rfl) T.m_tuple (by decide +kernel) (pa_cons (pv 2) pa_nil)))))))), ?_⟩
    refine ⟨_, rfl, ?_⟩
    dsimp only [tNil, List.cons_append, List.nil_append]
    refine asked_out h1 q fun bs hbs ok H1 e1 q1 => ?_
    subst hbs
    refine ⟨_, rfl, ?_⟩
    dsimp only [tCons, tC, tNil, List.cons_append, List.nil_append]
    refine many_out (h2.up e1) q1 fun x hx hvx x0 x1 q2 => ?_
    subst hx hvx
    obtain ⟨t, xs, rfl, hs, ha⟩ := dp_bars h1
    have hl : xs.length = bs.length := by rw [ha.len, List.length_map]
    have hl80 := ok.len
    refine ⟨_, rfl, t, rfl, ⟨xs, ex_t e1 hs⟩, fun Dl hDl => lc_tup (K := K) (a := t) (xs := xs) (fun i H2 => Ex H1 H2 ∧ ∃ acc, H2 Dl = some (.lst acc) ∧ DpAll K (cut [Dl] H2) acc (((bs.take i).map fun b => laterB b x).map barD)) ⟨Ex.new hDl, [], upd_same, .nil⟩ (fun i H2 _ ⟨e2, _⟩ => ex_t (e1.trans e2) hs) ?_ ?_⟩
    · rintro i y H2 hy ⟨e2, acc, ha2, hacc⟩
      obtain ⟨b, u, hb, rfl, hst, hD⟩ := dp_bar_get ha hy
      refine ⟨rfl, _, rfl, _, rfl, _, b, x, rfl, hD.up (e1.trans e2), fun r H3 hr2 e3 => ?_⟩
      subst e3
      have nrD : r ≠ Dl := fun z0 => by rw [z0, ha2] at hr2; cases hr2
      have e3 := Ex.new (o := .tup ([(laterB b x).1, (laterB b x).2.1, (laterB b x).2.2].map V.int)) hr2
      have hal : acc.length ≤ 80 := by rw [hacc.len, List.length_map, List.length_map, List.length_take]; omega
      refine ⟨acc, e3 _ _ ha2, Evl.sz_lt (by omega), (e2.trans e3).mut (p := Dl) hDl, acc ++ [.ref r], upd_same, ?_⟩
      rw [take_at hb, List.map_append, List.map_append]
      refine (hacc.up ?_).app (.cons (.tup (Or.inl (Or.inl ?_)) (.cons (.int _) (.cons (.int _) (.cons (.int _) .nil)))) .nil)
      · exact But.cut ((But.of e3).trans (But.put (by simp)))
      · rw [cut_out (by simpa using nrD), upd_ne nrD, upd_same]
        rfl
    · rintro H2 ⟨e2, acc, ha2, hacc⟩
      rw [hl, List.take_length] at hacc
      have hac2 := hacc.up ex_cut
      have hal : acc.length = bs.length := by rw [hac2.len, List.length_map, List.length_map]
      have q3 : outE K cl (oFirst (bs.map fun b => laterB b x)) H2 Q E := q2.up e2
      generalize (bs.map fun b => laterB b x) = ls at q3 hac2 hal
      have hll : acc.length = ls.length := by rw [hac2.len, List.length_map]
      refine ⟨_, rfl, Dl, acc, rfl, Or.inl (Or.inl ha2), for_it (walk_enum (K := K) (a := Dl) (xs := acc)) (fun i σ H' => ∃ v3 v4, σ = [some (V.ref t), some (V.int x), some (V.ref Dl), v3, v4] ∧ Ex H2 H' ∧ ∀ j, j < i → (!goodB (ls.getD j (0, 0, 0))) = false) ⟨none, none, rfl, Ex.refl _, fun j hj => absurd hj (by omega)⟩ (fun i σ H' _ ⟨_, _, _, e, _⟩ => Or.inl (Or.inl (e _ _ ha2))) ?_ ?_⟩
      · rintro i y σ H' H'' hi ⟨v3, v4, rfl, e, hb⟩ ⟨T0, x1, z, rfl, hT0, rfl, hx1, hz⟩
        cases hx1
        obtain ⟨b, u, hbi, rfl, hst, hDz⟩ := dp_bar_get hac2 hz
        have eT := Ex.new (o := .tup [V.int (i : Nat), V.ref u]) hT0
        have hgi : ls.getD i (0, 0, 0) = b := by rw [List.getD_eq_getElem?_getD, hbi]; rfl
        refine ⟨T0, _, rfl, Or.inl (Or.inl upd_same), rfl, _, _, rfl, _, _, rfl, rfl, ?_⟩
        refine ⟨_, rfl, _, _, rfl, hDz.up (e.trans eT), _, rfl, ?_⟩
        rw [barOf_isSome]
        cases hg : goodB b with
        | true =>
          refine iteF ⟨_, _, rfl, e.trans eT, fun j hj => ?_⟩
          by_cases hji : j < i
          · exact hb j hji
          · have : j = i := by omega
            rw [this, hgi, hg]
            rfl
        | false =>
          refine iteT ⟨_, rfl, mk_ref (XA "BadBars" (by simp)) fun r hr2 => ?_⟩
          have q4 : outE K cl (.bad "BadBars" (.int (i : Nat))) H2 Q E := by
            have : oFirst ls = .bad "BadBars" (.int (i : Nat)) := by
              unfold oFirst
              rw [find_first (p := fun i => !goodB (ls.getD i (0, 0, 0))) (by omega) (by rw [hgi, hg]; rfl) hb]
            rw [this] at q3
            exact q3
          exact q4 _ r (.int (i : Nat)) (e.trans eT) hr2 (.int _)
      · rintro σ H' ⟨v3, v4, rfl, e, hb⟩
        have q4 : outE K cl (.told (barsD ls)) H2 Q E := by
          have : oFirst ls = .told (barsD ls) := by
            unfold oFirst
            rw [find_never (p := fun i => !goodB (ls.getD i (0, 0, 0))) (by rw [← hll]; exact hb)]
          rw [this] at q3
          exact q3
        refine ⟨_, rfl, Dl, acc, rfl, Or.inl ⟨Or.inl (Or.inl (e _ _ ha2)), fun l hl2 => ?_⟩⟩
        have e3 := Ex.new (o := .tup acc) hl2
        exact q4 (.ref l) _ (e.trans e3) (.tup (Or.inl (Or.inl upd_same)) (hac2.up (e.trans e3)))
end
end K22
end
section
set_option Elab.async false
set_option linter.all false
set_option maxRecDepth 100000
set_option maxHeartbeats 4000000
namespace K22
open PySem PySem.Spec PyProof.Rows L2 LB Evl
def oWide (d1 d2 d3 : PyData) (k : List Bar → List Bar → Out) : Out := oBars d1 fun b1 => oBars d2 fun b2 => oMany d3 0 10000000 (k b1 b2)
def nearL (x : Bar) (ys : List Bar) (w : Int) : List Nat := (List.range ys.length).filter fun j => nearB x (ys.getD j (0, 0, 0)) w
def oNear (d1 d2 d3 d4 d5 : PyData) : Out := oWide d1 d2 d3 fun b1 b2 => oMany d4 0 1 (oMany d5 0 79
  (if (if intOf d4 = 0 then b1 else b2).length ≤ (intOf d5).toNat then .bad "BadIndex" d5 else .told (.tuple ((nearL ((if intOf d4 = 0 then b1 else b2).getD (intOf d5).toNat (0, 0, 0)) (if intOf d4 = 0 then b2 else b1) (intOf d3)).map fun j => .int (j : Nat)))))
theorem getElem_at {xs : List V} {m : Nat} (h : m < xs.length) : atI xs (m : Nat) = some xs[m] := atI_nat (List.getElem?_eq_getElem h)
theorem dpAll_nats {K : PySem.W.Frag} {H : Hp} : ∀ l : List Nat, DpAll K H (l.map fun j => V.int (j : Nat)) (l.map fun j => .int (j : Nat))
  | [] => .nil
  | n :: l => .cons (.int _) (dpAll_nats l)
def spWide (K : PySem.W.Frag) (cl : Str → Addr) : Sp := fun vs H Q E => ∃ (v1 v2 v3 : V) (d1 d2 d3 : PyData), vs = [v1, v2, v3] ∧ Dp K H v1 d1 ∧ Dp K H v2 d2 ∧ Dp K H v3 d3 ∧ ∃ (Q0 : VK) (k : List Bar → List Bar → Out), outE K cl (oWide d1 d2 d3 k) H Q0 E ∧
  ∀ b1 b2 i, d1 = barsD b1 → d2 = barsD b2 → v3 = .int i → d3 = .int i → BarsOk b1 → BarsOk b2 → ∀ H', Ex H H' → outE K cl (k b1 b2) H' Q0 E → Q .non H'
def spNearOf (K : PySem.W.Frag) (cl : Str → Addr) : Sp := fun vs H Q E => ∃ (v1 v2 v3 v4 v5 : V) (d1 d2 d3 d4 d5 : PyData), vs = [v1, v2, v3, v4, v5] ∧ Dp K H v1 d1 ∧ Dp K H v2 d2 ∧ Dp K H v3 d3 ∧ Dp K H v4 d4 ∧ Dp K H v5 d5 ∧ outE K cl (oNear d1 d2 d3 d4 d5) H Q E
section
variable {P : Program} {w : World} {K : PySem.W.Frag} {mg : Str → Option Value} {base : Heap} {cl : Str → Addr} {fI : Addr}
theorem ok_asked_wide (D : Dn K mg "asked_wide" s_asked_wide ["one", "two", "w"]) (T : Bt mg) (f_asked_bars : CalX P w K mg base 4 "asked_bars" (spAskedB K cl)) (f_asked_many : CalX P w K mg base 3 "asked_many" (spAsked K (cl "BadMany"))) : CalX P w K mg base 5 "asked_wide" (spWide K cl) := by
  refine calx_of D sc_asked_wide (fun vs H Q E h => ?_) (fun f cdv A outer s H vs Q E hr h => ?_)
  · obtain ⟨v1, v2, v3, d1, d2, d3, rfl, _⟩ := h
    rfl
  · obtain ⟨v1, v2, v3, d1, d2, d3, rfl, h1, h2, h3, Q0, k, q, next⟩ := h
    refine ⟨_, (pss_cons (ps_expr (LB.pe_cE (L2N.takes_of rfl rfl rfl rfl) f_asked_bars hr (by decide) (by rfl) (pa_cons (pv 0) pa_nil)))
      (pss_cons (ps_expr (LB.pe_cE (L2N.takes_of rfl rfl rfl rfl) f_asked_bars hr (by decide) (by rfl) (pa_cons (pv 1) pa_nil)))
      (pss_one (ps_expr (LB.pe_cE (L2N.takes_of rfl rfl rfl rfl) f_asked_many hr (by decide) (by rfl) (pa_cons (pv 2) (pa_cons pe_int (pa_cons (C8.pe_gc (by rfl) T.c_MOST_WIDE) pa_nil)))))))), ?_⟩
    refine ⟨_, rfl, ?_⟩
    dsimp only [tNil, List.cons_append, List.nil_append]
    refine asked_out h1 q fun b1 hb1 ok1 H1 e1 q1 => ?_
    refine ⟨_, rfl, ?_⟩
    dsimp only [tCons, tC, tNil, List.cons_append, List.nil_append]
    refine asked_out (h2.up e1) q1 fun b2 hb2 ok2 H2 e2 q2 => ?_
    refine ⟨_, rfl, ?_⟩
    dsimp only [tCons, tC, tNil, List.cons_append, List.nil_append]
    exact many_out (h3.up (e1.trans e2)) q2 fun i hi hvi _ _ q3 => next b1 b2 i hb1 hb2 hvi hi ok1 ok2 H2 (e1.trans e2) q3
theorem ok_near_of (D : Dn K mg "near_of" s_near_of ["one", "two", "w", "side", "i"]) (T : Bt mg) (XA : XAll K mg cl fI cls4) (iI : InitOk P w K mg base fI) (f_asked_wide : CalX P w K mg base 5 "asked_wide" (spWide K cl)) (f_asked_many : CalX P w K mg base 3 "asked_many" (spAsked K (cl "BadMany"))) (f_is_near : Cal P w K mg base 2 "is_near" (spNear K)) : CalX P w K mg base 6 "near_of" (spNearOf K cl) := by
  refine calx_of D sc_near_of (fun vs H Q E h => ?_) (fun f cdv A outer s H vs Q E hr h => ?_)
  · obtain ⟨v1, v2, v3, v4, v5, d1, d2, d3, d4, d5, rfl, _⟩ := h
    rfl
  · obtain ⟨v1, v2, v3, v4, v5, d1, d2, d3, d4, d5, rfl, h1, h2, h3, h4, h5, q⟩ := h
    refine ⟨_, (pss_cons (ps_expr (LB.pe_cE (L2N.takes_of rfl rfl rfl rfl) f_asked_wide hr (by decide) (by rfl) (pa_cons (pv 0) (pa_cons (pv 1) (pa_cons (pv 2) pa_nil)))))
      (pss_cons (ps_expr (LB.pe_cE (L2N.takes_of rfl rfl rfl rfl) f_asked_many hr (by decide) (by rfl) (pa_cons (pv 3) (pa_cons pe_int (pa_cons pe_int pa_nil)))))
      (pss_cons (ps_expr (LB.pe_cE (L2N.takes_of rfl rfl rfl rfl) f_asked_many hr (by decide) (by rfl) (pa_cons (pv 4) (pa_cons pe_int (pa_cons (C8.pe_gc (by rfl) T.c_MOST_INDEX) pa_nil)))))
      (pss_cons (ps_asg (pe_ifExp (pt_cmpR op_eq (pv 3) pe_int (nomark _)) (pe_tup (pa_cons (pv 0) (pa_cons (pv 1) pa_nil))) (pe_tup (pa_cons (pv 1) (pa_cons (pv 0) pa_nil)))) (pg_tup rfl (pgs_cons (pg_name (i := 5) sc_near_of.nd rfl (Or.inr rfl)) (pgs_cons (pg_name (i := 6) sc_near_of.nd rfl (Or.inl rfl)) pgs_nil))))
      (pss_cons (ps_if (pt_cmpR op_ge (pv 4) (pe_callB call_len_seq (by rfl) T.m_len PySem.boot_len (pa_cons (pv 5) pa_nil)) (nomark _)) (pss_one (ps_raiseX rfl (L2N.takes_of rfl rfl rfl rfl) (XA "BadIndex" (by simp)) iI hr (by decide) (by rfl) (pv 4))) pss_nil)
      (pss_one (ps_ret (pe_callTy call_tuple_of (by rfl) T.m_tuple (by decide +kernel) (pa_cons (pe_lc (own := [("j", 7), ("bar", 8)]) rfl sc_near_of.nd (pi_enumT (by rfl) T.m_enumerate (pa_cons (pv 6) pa_nil)) (blkOk_by (N := ["one", "two", "w", "side", "i", "mine", "theirs", "j", "bar"]) (sc := defScope s_near_of) (by decide +kernel)) (fun _ _ _ _ _ => (LB.pg_tupK (K := K) 2 rfl rfl (pgs_cons (pg_name (i := 7) sc_near_of.nd rfl (Or.inl rfl)) (pgs_cons (pg_name (i := 8) sc_near_of.nd rfl (Or.inl rfl)) pgs_nil)))) (fun _ _ _ _ _ => (pts_one (pt_val (LB.pe_c f_is_near hr (by decide) (by rfl) (pa_cons (pe_ix (ixK_tup (K := K) rfl) (pv 5) (pv 4) (fun _ _ => rfl)) (pa_cons (pv 8) (pa_cons (pv 2) pa_nil))))))) (fun _ _ _ _ _ => (pv 7))) pa_nil))))))))), ?_⟩
    refine ⟨_, rfl, _, rfl, _, rfl, v1, v2, v3, d1, d2, d3, rfl, h1, h2, h3, _, _, q, fun b1 b2 iw hb1 hb2 hvw hdw ok1 ok2 H1 e1 q1 => ?_⟩
    subst hb1 hb2 hvw hdw
    refine ⟨_, rfl, ?_⟩
    dsimp only [tCons, tC, tNil, List.cons_append, List.nil_append]
    refine many_out (h4.up e1) q1 fun is hs hvs s0 s1 q2 => ?_
    subst hs hvs
    refine ⟨_, rfl, ?_⟩
    dsimp only [tCons, tC, tNil, List.cons_append, List.nil_append]
    refine many_out (h5.up e1) q2 fun ii hi hvi i0 i1 q3 => ?_
    subst hi hvi
    obtain ⟨t1, xs1, rfl, hs1, ha1⟩ := dp_bars h1
    obtain ⟨t2, xs2, rfl, hs2, ha2⟩ := dp_bars h2
    have g2 : 2 ≤ sizeLine := by decide
    have H1s1 := ex_t e1 hs1
    have H1s2 := ex_t e1 hs2
    have H1a1 := ha1.up e1
    have H1a2 := ha2.up e1
    have q4 : outE K cl (if (if is = 0 then b1 else b2).length ≤ ii.toNat then .bad "BadIndex" (.int ii) else .told (.tuple ((nearL ((if is = 0 then b1 else b2).getD ii.toNat (0, 0, 0)) (if is = 0 then b2 else b1) iw).map fun j => .int (j : Nat)))) H1 Q E := q3
    clear q q1 q2 q3 hs1 hs2 ha1 ha2 h1 h2
    refine ⟨_, rfl, rfl, _, rfl, iteD (fun c0 => ?_) (fun c0 => ?_)⟩
    · have c0' : is = 0 := by injection c0
      rw [if_pos c0', if_pos c0'] at q4
      have hsm := H1s1
      have ham := H1a1
      have hst := H1s2
      have hat := H1a2
      have okm := ok1
      have okt := ok2
      clear H1s1 H1s2 H1a1 H1a2 ok1 ok2
      refine ⟨_, rfl, _, rfl, g2, fun tp htp => ⟨tp, _, rfl, Or.inl (Or.inl upd_same), rfl, _, _, rfl, _, _, rfl, rfl, ?_⟩⟩
      have eT := Ex.new (o := .tup [V.ref t1, V.ref t2]) htp
      generalize upd H1 tp (.tup [V.ref t1, V.ref t2]) = H3 at eT ⊢
      have hml := ham.len
      have htl := hat.len
      rw [List.length_map] at hml htl
      have h80 := okt.len
      refine ⟨_, rfl, _, rfl, _, _, rfl, Or.inr (ex_t eT hsm), _, _, rfl, rfl, _, rfl, iteD (fun c1 => ?_) (fun c1 => ?_)⟩
      · rw [if_pos (by omega)] at q4
        exact ⟨_, rfl, mk_ref (XA "BadIndex" (by simp)) fun r hr2 => q4 H3 r (.int ii) eT hr2 (.int _)⟩
      · rw [if_neg (by omega)] at q4
        obtain ⟨m, rfl⟩ : ∃ m : Nat, ii = m := ⟨ii.toNat, by omega⟩
        rw [Int.toNat_natCast] at q4
        have hmlt : m < xs1.length := by omega
        obtain ⟨bi, ui, hbi, hui, _, hDi⟩ := dp_bar_get ham (List.getElem?_eq_getElem hmlt)
        have hgm : b1.getD m (0, 0, 0) = bi := by rw [List.getD_eq_getElem?_getD, hbi]; rfl
        rw [hgm] at q4
        have hst3 := ex_t eT hst
        refine ⟨_, rfl, _, _, rfl, hst3, fun Dl hDl => lc_it (walk_enumT (K := K) (a := t2) (xs := xs2)) (fun n H2 => Ex H3 H2 ∧ H2 Dl = some (.lst (((List.range n).filter fun j => nearB bi (b2.getD j (0, 0, 0)) iw).map fun j => V.int (j : Nat)))) ⟨Ex.new hDl, upd_same⟩ (fun n H2 _ ⟨e2, _⟩ => ex_t e2 hst3) ?_ ?_⟩
        · rintro n x H2 H2' hn ⟨e2, hD2⟩ ⟨T0, x1, y, rfl, hT0, rfl, hx1, hy⟩
          cases hx1
          obtain ⟨bj, uj, hbj, rfl, _, hDj⟩ := dp_bar_get hat hy
          have eN := Ex.new (o := .tup [V.int (n : Nat), V.ref uj]) hT0
          have e3 := e2.trans eN
          have hgj : b2.getD n (0, 0, 0) = bj := by rw [List.getD_eq_getElem?_getD, hbj]; rfl
          have hgi := getElem_at hmlt
          refine ⟨T0, _, rfl, Or.inl (Or.inl upd_same), rfl, _, _, rfl, _, _, rfl, rfl, rfl, ?_⟩
          refine ⟨_, rfl, _, rfl, _, _, _, _, rfl, rfl, ex_t (eT.trans e3) hsm, hgi, _, rfl, _, rfl, _, _, bi, bj, iw, rfl, hDi.up (eT.trans e3), hDj.up (eT.trans e3), _, rfl, ?_⟩
          cases hnr : nearB bi bj iw with
          | true =>
            refine ⟨_, rfl, _, eN _ _ hD2, Evl.sz_lt ?_, e3.mut (p := Dl) hDl, ?_⟩
            · rw [List.length_map]
              refine Nat.lt_of_le_of_lt (List.length_filter_le _ _) ?_
              rw [List.length_range]
              omega
            · rw [upd_same, List.range_succ, List.filter_append, List.filter_cons, hgj, hnr, if_pos rfl, List.map_append]
              rfl
          | false =>
            refine ⟨e3, ?_⟩
            rw [eN _ _ hD2, List.range_succ, List.filter_append, List.filter_cons, hgj, hnr, if_neg (by decide), List.filter_nil, List.append_nil]
        · rintro H2 ⟨e2, hD2⟩
          refine ⟨Dl, _, rfl, Or.inl ⟨Or.inl (Or.inl hD2), fun l hl2 => ?_⟩⟩
          have e3 := Ex.new (o := .tup (((List.range xs2.length).filter fun j => nearB bi (b2.getD j (0, 0, 0)) iw).map fun j => V.int (j : Nat))) hl2
          refine q4 (.ref l) _ ((eT.trans e2).trans e3) (.tup (Or.inl (Or.inl upd_same)) ?_)
          rw [htl]
          exact dpAll_nats _
    · have c0' : ¬ is = 0 := fun z => c0 (by rw [z])
      rw [if_neg c0', if_neg c0'] at q4
      have hsm := H1s2
      have ham := H1a2
      have hst := H1s1
      have hat := H1a1
      have okm := ok2
      have okt := ok1
      clear H1s1 H1s2 H1a1 H1a2 ok1 ok2
      refine ⟨_, rfl, _, rfl, g2, fun tp htp => ⟨tp, _, rfl, Or.inl (Or.inl upd_same), rfl, _, _, rfl, _, _, rfl, rfl, ?_⟩⟩
      have eT := Ex.new (o := .tup [V.ref t2, V.ref t1]) htp
      generalize upd H1 tp (.tup [V.ref t2, V.ref t1]) = H3 at eT ⊢
      have hml := ham.len
      have htl := hat.len
      rw [List.length_map] at hml htl
      have h80 := okt.len
      refine ⟨_, rfl, _, rfl, _, _, rfl, Or.inr (ex_t eT hsm), _, _, rfl, rfl, _, rfl, iteD (fun c1 => ?_) (fun c1 => ?_)⟩
      · rw [if_pos (by omega)] at q4
        exact ⟨_, rfl, mk_ref (XA "BadIndex" (by simp)) fun r hr2 => q4 H3 r (.int ii) eT hr2 (.int _)⟩
      · rw [if_neg (by omega)] at q4
        obtain ⟨m, rfl⟩ : ∃ m : Nat, ii = m := ⟨ii.toNat, by omega⟩
        rw [Int.toNat_natCast] at q4
        have hmlt : m < xs2.length := by omega
        obtain ⟨bi, ui, hbi, hui, _, hDi⟩ := dp_bar_get ham (List.getElem?_eq_getElem hmlt)
        have hgm : b2.getD m (0, 0, 0) = bi := by rw [List.getD_eq_getElem?_getD, hbi]; rfl
        rw [hgm] at q4
        have hst3 := ex_t eT hst
        refine ⟨_, rfl, _, _, rfl, hst3, fun Dl hDl => lc_it (walk_enumT (K := K) (a := t1) (xs := xs1)) (fun n H2 => Ex H3 H2 ∧ H2 Dl = some (.lst (((List.range n).filter fun j => nearB bi (b1.getD j (0, 0, 0)) iw).map fun j => V.int (j : Nat)))) ⟨Ex.new hDl, upd_same⟩ (fun n H2 _ ⟨e2, _⟩ => ex_t e2 hst3) ?_ ?_⟩
        · rintro n x H2 H2' hn ⟨e2, hD2⟩ ⟨T0, x1, y, rfl, hT0, rfl, hx1, hy⟩
          cases hx1
          obtain ⟨bj, uj, hbj, rfl, _, hDj⟩ := dp_bar_get hat hy
          have eN := Ex.new (o := .tup [V.int (n : Nat), V.ref uj]) hT0
          have e3 := e2.trans eN
          have hgj : b1.getD n (0, 0, 0) = bj := by rw [List.getD_eq_getElem?_getD, hbj]; rfl
          have hgi := getElem_at hmlt
          refine ⟨T0, _, rfl, Or.inl (Or.inl upd_same), rfl, _, _, rfl, _, _, rfl, rfl, rfl, ?_⟩
          refine ⟨_, rfl, _, rfl, _, _, _, _, rfl, rfl, ex_t (eT.trans e3) hsm, hgi, _, rfl, _, rfl, _, _, bi, bj, iw, rfl, hDi.up (eT.trans e3), hDj.up (eT.trans e3), _, rfl, ?_⟩
          cases hnr : nearB bi bj iw with
          | true =>
            refine ⟨_, rfl, _, eN _ _ hD2, Evl.sz_lt ?_, e3.mut (p := Dl) hDl, ?_⟩
            · rw [List.length_map]
              refine Nat.lt_of_le_of_lt (List.length_filter_le _ _) ?_
              rw [List.length_range]
              omega
            · rw [upd_same, List.range_succ, List.filter_append, List.filter_cons, hgj, hnr, if_pos rfl, List.map_append]
              rfl
          | false =>
            refine ⟨e3, ?_⟩
            rw [eN _ _ hD2, List.range_succ, List.filter_append, List.filter_cons, hgj, hnr, if_neg (by decide), List.filter_nil, List.append_nil]
        · rintro H2 ⟨e2, hD2⟩
          refine ⟨Dl, _, rfl, Or.inl ⟨Or.inl (Or.inl hD2), fun l hl2 => ?_⟩⟩
          have e3 := Ex.new (o := .tup (((List.range xs1.length).filter fun j => nearB bi (b1.getD j (0, 0, 0)) iw).map fun j => V.int (j : Nat))) hl2
          refine q4 (.ref l) _ ((eT.trans e2).trans e3) (.tup (Or.inl (Or.inl upd_same)) ?_)
          rw [htl]
          exact dpAll_nats _
end
end K22
end
section
set_option Elab.async false
set_option linter.all false
set_option maxRecDepth 100000
set_option maxHeartbeats 4000000
namespace K22
open PySem PySem.Spec PyProof.Rows L2 LB Evl
/-! ### the law's own bars: what it looks at itself -/
def spIsBarL (K : PySem.W.Frag) : Sp := fun vs H Q _ => ∃ (v : V) (d : PyData), vs = [v] ∧ Dp K H v d ∧ ∀ H', Ex H H' → Q (.bl (barOf d).isSome) H'
theorem barOf_ints {d1 d2 d3 : PyData} (h : (isW d1 && (isW d2 && isW d3)) = false) : barOf (.tuple [d1, d2, d3]) = none := by
  cases d1 <;> cases d2 <;> cases d3 <;> first | rfl | cases h
theorem isW_int {d : PyData} (h : isW d = true) : ∃ i, d = .int i := by
  cases d with
  | int i => exact ⟨i, rfl⟩
  | _ => cases h
section
variable {P : Program} {w : World} {K : PySem.W.Frag} {mg : Str → Option Value} {base : Heap}
theorem ok_law_mt_is_bar (D : Dn K mg "_law_mt_is_bar" s_law_mt_is_bar ["thing"]) (T : Bt mg) (f_law_is_whole : Cal P w K mg base 1 "_law_is_whole" (spIsW K)) : Cal P w K mg base 2 "_law_mt_is_bar" (spIsBarL K) := by
  refine cal_of D sc_law_mt_is_bar (fun vs H Q E h => ?_) (fun f cdv A outer s H vs Q E hr h => ?_)
  · obtain ⟨v, d, rfl, _⟩ := h
    rfl
  · obtain ⟨v, d, rfl, hd, q⟩ := h
    have hu : (A.deeper (envOfC "_law_mt_is_bar" (defScope s_law_mt_is_bar) s.heap.objs.size f cdv)).units + 16 < cLine := by
      have := hr.un
      omega
    refine ⟨_, (pss_cons (ps_if (PW.pt (pw_or (pt_not (pt_val (pe_callB call_isi (by rfl) T.m_isinstance (by decide +kernel) (pa_cons (pv 0) (pa_cons (pe_bltn (v := .ty "tuple") (u := .type "tuple") (by rfl) T.m_tuple (by decide +kernel) rfl) pa_nil))))) (pw_or (pt_cmpR op_ne (pe_callB call_len_seq (by rfl) T.m_len PySem.boot_len (pa_cons (pv 0) pa_nil)) pe_int (nomark _)) (pw_or1 (pt_cmpR (op_neP hu) (pe_lc (own := [("n", 1)]) rfl sc_law_mt_is_bar.nd (pi_tup (pv 0)) (blkOk_by (N := ["thing", "n", "k", "b", "d"]) (sc := defScope s_law_mt_is_bar) (by decide +kernel)) (fun _ _ _ _ _ => (pg_name (i := 1) sc_law_mt_is_bar.nd rfl (Or.inl rfl))) (fun _ _ _ _ _ => (pts_one (pt_not (pt_val (LB.pe_c f_law_is_whole hr (by decide) (by rfl) (pa_cons (pv 1) pa_nil)))))) (fun _ _ _ _ _ => (pv 1))) (pe_lst pa_nil) (nomark _)))))) (pss_one (ps_ret pe_bl)) pss_nil)
      (pss_cons (ps_asg (pv 0) (pg_tup rfl (pgs_cons (pg_name (i := 2) sc_law_mt_is_bar.nd rfl (Or.inl rfl)) (pgs_cons (pg_name (i := 3) sc_law_mt_is_bar.nd rfl (Or.inl rfl)) (pgs_cons (pg_name (i := 4) sc_law_mt_is_bar.nd rfl (Or.inl rfl)) pgs_nil)))))
      (pss_one (ps_ret (pe_and (pe_chain op_le op_le pe_int (pv 2) pe_int) (pe_and (pe_chain op_le op_le pe_int (pv 3) pe_int) (pe_one (pe_or (pe_cmpR op_eq (pv 4) (pe_un un_neg pe_int) (nomark _)) (pe_one (pe_chain op_lt op_le (pv 3) (pv 4) pe_int)))))))))), ?_⟩
    refine ⟨_, rfl, v, .ty "tuple", _, _, _, rfl, .ty "tuple", dp_ty hd, kit_tup hd, _, rfl, ?_⟩
    cases hd with
    | non => exact iteT (q H (Ex.refl H))
    | bl b => exact iteT (q H (Ex.refl H))
    | int i => exact iteT (q H (Ex.refl H))
    | str x => exact iteT (q H (Ex.refl H))
    | lst _ _ => exact iteT (q H (Ex.refl H))
    | @tup a xs ds hs ha =>
      have hl : xs.length = ds.length := ha.len
      refine iteF ⟨_, rfl, a, xs, rfl, Or.inr hs, rfl, _, rfl, iteN (fun c0 => ?_) (fun c0 => ?_)⟩
      · have h3 : xs.length = 3 := by
          have := V.int.inj c0
          omega
        refine ⟨_, rfl, a, rfl, ⟨xs, hs⟩, fun Dl hDl => lc_tup (K := K) (a := a) (xs := xs) (fun i H2 => Ex H H2 ∧ ∃ acc, H2 Dl = some (.lst acc) ∧ DpAll K H acc ((ds.take i).filter fun d => !isW d)) ⟨Ex.new hDl, [], upd_same, .nil⟩ (fun i H2 _ ⟨e2, _⟩ => ex_t e2 hs) ?_ ?_⟩
        · rintro i x H2 hx ⟨e2, acc, ha2, hacc⟩
          obtain ⟨di, hdi, hDi⟩ := ha.get hx
          have hle : acc.length ≤ 3 := by
            rw [hacc.len]
            refine Nat.le_trans (List.length_filter_le _ _) ?_
            rw [List.length_take]
            omega
          refine ⟨rfl, _, rfl, x, di, rfl, hDi.up e2, _, rfl, ?_⟩
          cases hw : isW di with
          | true =>
            refine iteF ⟨e2, acc, ha2, ?_⟩
            rw [take_at hdi, List.filter_append, List.filter_cons, hw]
            simpa using hacc
          | false =>
            refine iteT ⟨_, rfl, acc, ha2, Evl.sz_lt (by omega), e2.mut (p := Dl) hDl, _, upd_same, ?_⟩
            rw [take_at hdi, List.filter_append, List.filter_cons, hw]
            exact hacc.app (.cons hDi .nil)
        · rintro H2 ⟨e2, acc, ha2, hacc⟩
          rw [hl, List.take_length] at hacc
          refine ⟨Nat.zero_le _, fun l0 hl0 => ?_⟩
          have e3 := e2.trans (Ex.new (o := .lst []) hl0)
          refine ⟨_, _, .lst (Or.inl (Or.inl (Ex.new (o := .lst []) hl0 _ _ ha2))) (hacc.up e3), .lst (Or.inl (Or.inl upd_same)) .nil, min_lnil _, _, rfl, ?_⟩
          rw [eqv_lnil]
          generalize upd H2 l0 (.lst []) = H3 at e3 ⊢
          clear hacc
          match ds, ha, hl with
          | [], ha, _ => cases ha; cases h3
          | [_], ha, _ => cases ha with | cons a1 a2 => cases a2; cases h3
          | [_, _], ha, _ => cases ha with | cons a1 a2 => cases a2 with | cons a2 a3 => cases a3; cases h3
          | _ :: _ :: _ :: _ :: _, ha, hl => rw [hl] at h3; simp at h3
          | [d1, d2, d3], ha, _ =>
            cases hw : (isW d1 && (isW d2 && isW d3)) with
            | false =>
              have hne : (List.filter (fun d => !isW d) [d1, d2, d3]).isEmpty = false := by
                simp only [List.filter_cons, List.filter_nil]
                cases h1 : isW d1 <;> cases h2 : isW d2 <;> cases h3 : isW d3 <;> first | rfl | (rw [h1, h2, h3] at hw; cases hw)
              rw [hne]
              refine iteT ?_
              have := q H3 e3
              rw [barOf_ints hw] at this
              exact this
            | true =>
              rw [Bool.and_eq_true, Bool.and_eq_true] at hw
              obtain ⟨k, rfl⟩ := isW_int hw.1
              obtain ⟨b, rfl⟩ := isW_int hw.2.1
              obtain ⟨d, rfl⟩ := isW_int hw.2.2
              refine iteF ?_
              have q3 : Q (.bl (goodB (k, b, d))) H3 := by
                have := q H3 e3
                have e : (barOf (.tuple [.int k, .int b, .int d])).isSome = goodB (k, b, d) := by
                  show (if goodB (k, b, d) = true then some (k, b, d) else none).isSome = _
                  cases goodB (k, b, d) <;> rfl
                rw [e] at this
                exact this
              cases ha with
              | @cons x1 _ _ _ a1 a2 =>
              cases a2 with
              | @cons x2 _ _ _ a2 a3 =>
              cases a3 with
              | @cons x3 _ _ _ a3 a4 =>
              cases a4
              cases a1
              cases a2
              cases a3
              have gd : ∀ c : Bool, goodB (k, b, d) = c → Q (.bl c) H3 := fun c z => by rw [z] at q3; exact q3
              refine ⟨_, rfl, a, _, rfl, ex_t e3 hs, rfl, _, _, rfl, _, _, rfl, _, _, rfl, rfl, ?_⟩
              have no : ¬ (0 ≤ k ∧ k ≤ 5 ∧ 0 ≤ b ∧ b ≤ 4000000 ∧ (d = -1 ∨ (b < d ∧ d ≤ 4000000))) → Q (.bl false) H3 := fun z => gd false (decide_eq_false z)
              have yes : (0 ≤ k ∧ k ≤ 5 ∧ 0 ≤ b ∧ b ≤ 4000000 ∧ (d = -1 ∨ (b < d ∧ d ≤ 4000000))) → Q (.bl true) H3 := fun z => gd true (decide_eq_true z)
              refine ⟨_, rfl, _, _, rfl, rfl, _, rfl, iteD (fun c1 => ?_) (fun c1 => ⟨_, rfl, iteF (no (by omega))⟩)⟩
              refine ⟨_, _, rfl, rfl, _, rfl, iteD (fun c2 => ?_) (fun c2 => no (by omega))⟩
              refine ⟨_, rfl, _, _, rfl, rfl, _, rfl, iteD (fun c3 => ?_) (fun c3 => ⟨_, rfl, iteF (no (by omega))⟩)⟩
              refine ⟨_, _, rfl, rfl, _, rfl, iteD (fun c4 => ?_) (fun c4 => no (by omega))⟩
              refine ⟨_, rfl, _, rfl, rfl, _, rfl, iteD (fun c5 => ?_) (fun c5 => ?_)⟩
              · have c5' : d = -1 := by injection c5
                exact yes (by omega)
              · have c5' : ¬ d = -1 := fun z => c5 (by rw [z])
                refine ⟨_, rfl, _, rfl, _, _, rfl, rfl, _, rfl, iteD (fun c6 => ?_) (fun c6 => no (by omega))⟩
                refine ⟨_, _, rfl, rfl, ?_⟩
                show Q (.bl (decide (d ≤ 4000000))) H3
                by_cases c7 : d ≤ 4000000
                · rw [decide_eq_true c7]
                  exact yes (by omega)
                · rw [decide_eq_false c7]
                  exact no (by omega)
      · have h3 : ¬ ds.length = 3 := fun z => c0 (by rw [hl, z]; rfl)
        have hq : barOf (.tuple ds) = none := by
          unfold barOf
          split
          · rename_i h; cases h; exact absurd rfl h3
          · rfl
        have q := q H (Ex.refl H)
        rw [hq] at q
        exact q
theorem ok_law_mt_fault (D : Dn K mg "_law_mt_fault" s_law_mt_fault ["thing"]) (T : Bt mg) (f_law_mt_is_bar : Cal P w K mg base 2 "_law_mt_is_bar" (spIsBarL K)) : Cal P w K mg base 3 "_law_mt_fault" (spFault K) := by
  refine cal_of D sc_law_mt_fault (fun vs H Q E h => ?_) (fun f cdv A outer s H vs Q E hr h => ?_)
  · obtain ⟨v, d, rfl, _⟩ := h
    rfl
  · obtain ⟨v, d, rfl, hd, q0, q1⟩ := h
    have hu : (A.deeper (envOfC "_law_mt_fault" (defScope s_law_mt_fault) s.heap.objs.size f cdv)).units < cLine := by
      have := hr.un
      omega
    refine ⟨_, (pss_cons (ps_if (pt_not (pt_val (pe_callB call_isi (by rfl) T.m_isinstance (by decide +kernel) (pa_cons (pv 0) (pa_cons (pe_bltn (v := .ty "tuple") (u := .type "tuple") (by rfl) T.m_tuple (by decide +kernel) rfl) pa_nil))))) (pss_one (ps_ret (pe_tup (pa_cons pe_str (pa_cons (pe_un un_neg pe_int) pa_nil))))) pss_nil)
      (pss_cons (ps_if (pt_cmpR op_gt (pe_callB call_len_seq (by rfl) T.m_len PySem.boot_len (pa_cons (pv 0) pa_nil)) pe_int (nomark _)) (pss_one (ps_ret (pe_tup (pa_cons pe_str (pa_cons (pe_callB call_len_seq (by rfl) T.m_len PySem.boot_len (pa_cons (pv 0) pa_nil)) pa_nil))))) pss_nil)
      (pss_cons (ps_for PassesOwn.never rfl (pi_range1 (by rfl) T.m_range (pa_cons (pe_callB call_len_seq (by rfl) T.m_len PySem.boot_len (pa_cons (pv 0) pa_nil)) pa_nil)) (pg_name (i := 1) sc_law_mt_fault.nd rfl (Or.inl rfl)) (pss_one (ps_if (PW.pt (pw_or (pt_not (pt_val (LB.pe_c f_law_mt_is_bar hr (by decide) (by rfl) (pa_cons (pe_ix ix_tup (pv 0) (pv 1) (fun _ _ => rfl)) pa_nil)))) (pw_or1 (PW.pt (pw_and (pt_cmpR op_gt (pv 1) pe_int (nomark _)) (pw_and1 (pt_cmpR (op_ltT hu) (pe_ix ix_tup (pv 0) (pv 1) (fun _ _ => rfl)) (pe_ix ix_tup (pv 0) (pe_op op_sub (pv 1) pe_int) (fun _ _ => rfl)) (nomark _)))))))) (pss_one (ps_ret (pe_tup (pa_cons pe_str (pa_cons (pv 1) pa_nil))))) pss_nil)))
      (pss_one (ps_ret pe_non))))), ?_⟩
    have h2 : 2 ≤ sizeLine := by decide
    have nt : isTup d = false → faultD d = some (("BadBars" : Str), (-1 : Int)) := by
      intro h
      cases d with
      | tuple ds => cases h
      | _ => rfl
    refine ⟨_, rfl, v, .ty "tuple", _, _, _, rfl, .ty "tuple", dp_ty hd, kit_tup hd, _, rfl, iteN' (fun c0 => ?_) (fun c0 => ?_)⟩
    · cases hd with
      | @tup a xs ds hs ha =>
        have hl : xs.length = ds.length := ha.len
        refine ⟨_, rfl, a, xs, rfl, Or.inr hs, _, _, rfl, rfl, _, rfl, iteD (fun c1 => ?_) (fun c1 => ?_)⟩
        · refine ⟨_, rfl, a, xs, rfl, Or.inr hs, h2, fun t ht => ?_⟩
          refine q1 ("TooMany", (ds.length : Nat)) ?_ t _ (Ex.new ht) ?_
          · show (if 80 < ds.length then _ else _) = _
            rw [if_pos (by omega)]
          · rw [upd_same, hl]
        · have hn80 : ¬ 80 < ds.length := by omega
          refine ⟨_, rfl, a, xs, rfl, Or.inr hs, _, rfl, by omega, by omega, for_range (lo := 0) (n := (xs.length : Int).toNat) (fun i σ H' => ∃ v1, σ = [some (V.ref a), v1] ∧ Ex H H' ∧ ∀ j, j < i → wrongAt ds j = false) ⟨none, rfl, Ex.refl _, fun j hj => absurd hj (by omega)⟩ ?_ ?_⟩
          · rintro i σ H' hi ⟨v1, rfl, e, hb⟩
            have hi' : i < xs.length := by omega
            rw [Int.zero_add]
            obtain ⟨y, hy⟩ : ∃ y, xs[i]? = some y := ⟨xs[i], List.getElem?_eq_getElem hi'⟩
            obtain ⟨di, hdi, hDy⟩ := ha.get hy
            have hgi : ds.getD i .none = di := by rw [List.getD_eq_getElem?_getD, hdi]; rfl
            have bad : wrongAt ds i = true → ∀ (t : Addr) (H3 : Hp), Ex H H3 → H3 t = some (.tup [.str "BadBars", .int (i : Nat)]) → Q (.ref t) H3 := fun hw t H3 e3 h3 => by
              refine q1 ("BadBars", (i : Nat)) ?_ t H3 e3 h3
              show (if 80 < ds.length then _ else _) = _
              rw [if_neg hn80, firstBad, find_first (by omega) hw hb]
              rfl
            refine ⟨_, rfl, _, rfl, a, xs, _, _, rfl, rfl, ex_t e hs, at_of (by omega) hy, y, di, rfl, hDy.up e, fun H4 e4 => ?_⟩
            have eT : Ex H' H4 := e4
            have hDy' := hDy.up (e.trans eT)
            refine ⟨_, rfl, iteN' (fun c2 => ?_) (fun c2 => ?_)⟩
            · obtain ⟨xb, hxb⟩ := Option.isSome_iff_exists.mp c2
              refine ⟨_, rfl, _, _, rfl, rfl, _, rfl, iteD (fun c3 => ?_) (fun c3 => ?_)⟩
              · obtain ⟨m, rfl⟩ : ∃ m, i = m + 1 := ⟨i - 1, by omega⟩
                have hwm := hb m (by omega)
                obtain ⟨dm, hdm⟩ : ∃ dm, ds[m]? = some dm := ⟨ds[m]'(by omega), List.getElem?_eq_getElem (by omega)⟩
                obtain ⟨z, hz, hDz⟩ := ha.getD hdm
                have hgm : ds.getD m .none = dm := by rw [List.getD_eq_getElem?_getD, hdm]; rfl
                obtain ⟨ym, hym⟩ : ∃ ym, barOf dm = some ym := by
                  unfold wrongAt at hwm
                  rw [hgm] at hwm
                  cases hbo : barOf dm with
                  | none => rw [hbo] at hwm; cases hwm
                  | some z => exact ⟨z, rfl⟩
                have hw : wrongAt ds (m + 1) = ltB xb ym := by
                  unfold wrongAt
                  rw [hgi, hxb]
                  show (match barOf (ds.getD m .none) with | none => false | some y => ltB xb y) = _
                  rw [hgm, hym]
                obtain ⟨rfl, _⟩ := barOf_some hxb
                obtain ⟨rfl, _⟩ := barOf_some hym
                obtain ⟨ta, rfl, sa⟩ := dp_bar hDy'
                obtain ⟨tb, rfl, sb⟩ := dp_bar (hDz.up (e.trans eT))
                refine ⟨_, rfl, _, rfl, a, xs, _, _, rfl, rfl, ex_t (e.trans eT) hs, at_of (by omega) hy, _, rfl, _, rfl, _, _, rfl, rfl, a, xs, _, _, rfl, rfl, ex_t (e.trans eT) hs, at_of (by omega) hz, ta, tb, _, _, rfl, rfl, sa, sb, _, rfl, iteB (fun c4 => ?_) (fun c4 => ?_)⟩
                · refine ⟨_, rfl, h2, fun t ht => bad (hw.trans c4) t _ ((e.trans eT).trans (Ex.new ht)) upd_same⟩
                · refine ⟨some (.int ((m + 1 : Nat) : Int)), rfl, e.trans eT, fun j hj => ?_⟩
                  by_cases hjm : j < m + 1
                  · exact hb j hjm
                  · have : j = m + 1 := by omega
                    rw [this]
                    exact hw.trans c4
              · have hi0 : i = 0 := by omega
                subst hi0
                refine iteF ⟨some (.int ((0 : Nat) : Int)), rfl, e.trans eT, fun j hj => ?_⟩
                have : j = 0 := by omega
                subst this
                unfold wrongAt
                rw [hgi, hxb]
            · refine ⟨_, rfl, h2, fun t ht => bad ?_ t _ ((e.trans eT).trans (Ex.new ht)) upd_same⟩
              unfold wrongAt
              rw [hgi]
              cases hbo : barOf di with
              | none => rfl
              | some z => rw [hbo] at c2; cases c2
          · rintro σ H' ⟨v1, rfl, e, hb⟩
            refine q0 ?_ H' e
            show (if 80 < ds.length then _ else _) = _
            rw [if_neg hn80, firstBad, find_never (fun j hj => hb j (by omega))]
            rfl
      | _ => cases c0
    · refine ⟨_, rfl, h2, fun t ht => q1 ("BadBars", -1) (nt c0) t _ (Ex.new ht) upd_same⟩
end
end K22
end
section
set_option Elab.async false
set_option linter.all false
set_option maxRecDepth 100000
set_option maxHeartbeats 4000000
namespace K22
open PySem PySem.Spec PyProof.Rows L2 LB Evl
def spNearL (K : PySem.W.Frag) : Sp := fun vs H Q _ => ∃ (v u : V) (x : Bar) (ys : List Bar) (w : Int), vs = [v, u, .int w] ∧ Dp K H v (barD x) ∧ Dp K H u (barsD ys) ∧ ys.length ≤ 80 ∧
  ∀ (Dl : Addr) (H' : Hp), Ex H H' → H' Dl = some (.lst ((nearL x ys w).map fun j => V.int (j : Nat))) → Q (.ref Dl) H'
def spThere (K : PySem.W.Frag) : Sp := fun vs H Q _ => ∃ (v : V) (bs : List Bar) (k s t : Int), vs = [v, .int k, .int s, .int t] ∧ Dp K H v (barsD bs) ∧ bs.length ≤ 80 ∧ ∀ H', Ex H H' → Q (.int ((bs.filter (onB k s t)).length : Nat)) H'
def earlyD : PyData → PyData
  | .int i => if 4000000 < i then .int i else .int 8
  | d => d
def spEarly (K : PySem.W.Frag) : Sp := fun vs H Q _ => ∃ (v : V) (d : PyData), vs = [v] ∧ Dp K H v d ∧ ∀ v', Dp K H v' (earlyD d) → Q v' H
theorem absI_nn (i : Int) : 0 ≤ absI i := by
  unfold absI
  split <;> omega
section
variable {P : Program} {w : World} {K : PySem.W.Frag} {mg : Str → Option Value} {base : Heap}
theorem ok_law_mt_cost (D : Dn K mg "_law_mt_cost" s_law_mt_cost ["one", "two"]) (T : Bt mg) : Cal P w K mg base 1 "_law_mt_cost" (spCost K) := by
  refine cal_of D sc_law_mt_cost (fun vs H Q E h => ?_) (fun f cdv A outer s H vs Q E hr h => ?_)
  · obtain ⟨v, u, x, y, rfl, _⟩ := h
    rfl
  · obtain ⟨v, u, x, y, rfl, hx, hy, q⟩ := h
    refine ⟨_, (pss_cons (ps_if (PW.pt (pw_or (pt_cmpR op_ne (pe_ix ix_tup (pv 0) pe_int (fun _ _ => rfl)) (pe_ix ix_tup (pv 1) pe_int (fun _ _ => rfl)) (nomark _)) (pw_or1 (pt_cmpR op_ne (pe_cmpR op_eq (pe_ix ix_tup (pv 0) pe_int (fun _ _ => rfl)) (pe_un un_neg pe_int) (nomark _)) (pe_cmpR op_eq (pe_ix ix_tup (pv 1) pe_int (fun _ _ => rfl)) (pe_un un_neg pe_int) (nomark _)) (nomark _))))) (pss_one (ps_ret pe_non)) pss_nil)
      (pss_cons (ps_set (i := 2) sc_law_mt_cost.nd rfl (Or.inl rfl) (pe_callB call_abs (by rfl) T.m_abs (by decide +kernel) (pa_cons (pe_op op_sub (pe_ix ix_tup (pv 0) pe_int (fun _ _ => rfl)) (pe_ix ix_tup (pv 1) pe_int (fun _ _ => rfl))) pa_nil)))
      (pss_one (ps_ret (pe_op op_mul pe_int (pe_ifExp (pt_cmpR op_ne (pe_ix ix_tup (pv 0) pe_int (fun _ _ => rfl)) (pe_un un_neg pe_int) (nomark _)) (pe_callB (call_max2 rfl) (by rfl) T.m_max (by decide +kernel) (pa_cons (pe_callTy call_int1 (by rfl) T.m_int (by decide +kernel) (pa_cons (pv 2) pa_nil)) (pa_cons (pe_callTy call_int1 (by rfl) T.m_int (by decide +kernel) (pa_cons (pe_callB call_abs (by rfl) T.m_abs (by decide +kernel) (pa_cons (pe_op op_sub (pe_ix ix_tup (pv 0) pe_int (fun _ _ => rfl)) (pe_ix ix_tup (pv 1) pe_int (fun _ _ => rfl))) pa_nil)) pa_nil)) pa_nil))) (pv 2))))))), ?_⟩
    obtain ⟨t, rfl, sx⟩ := dp_bar hx
    obtain ⟨r, rfl, sy⟩ := dp_bar hy
    obtain ⟨a0, a1, a2⟩ := ix3 x
    obtain ⟨b0, b1, b2⟩ := ix3 y
    refine ⟨_, rfl, t, _, _, _, rfl, rfl, sx, a0, _, rfl, r, _, _, _, rfl, rfl, sy, b0, rfl, _, rfl, ?_⟩
    unfold costB at q
    cases h1 : (!decide (V.int x.1 = V.int y.1)) with
    | true =>
      rw [h1, if_pos rfl] at q
      exact iteT q
    | false =>
      rw [h1, if_neg (by decide)] at q
      refine iteF ⟨_, rfl, t, _, _, _, rfl, rfl, sx, a2, _, rfl, rfl, _, rfl, r, _, _, _, rfl, rfl, sy, b2, _, rfl, rfl, rfl, _, rfl, ?_⟩
      cases h2 : (!decide (V.bl (decide (V.int x.2.2 = V.int (-1))) = V.bl (decide (V.int y.2.2 = V.int (-1))))) with
      | true =>
        rw [h2, if_pos rfl] at q
        exact iteT q
      | false =>
        rw [h2, if_neg (by decide)] at q
        refine iteF ⟨_, rfl, t, _, _, _, rfl, rfl, sx, a1, _, rfl, r, _, _, _, rfl, rfl, sy, b1, _, _, rfl, rfl, _, rfl, ?_⟩
        refine ⟨_, rfl, t, _, _, _, rfl, rfl, sx, a2, _, rfl, rfl, _, rfl, iteN (fun c => ?_) (fun c => ?_)⟩
        · have c' : x.2.2 = -1 := by injection c
          have c2 : y.2.2 = -1 := by
            rw [Bool.not_eq_false', decide_eq_true_eq] at h2
            injection h2 with h2
            rw [decide_eq_true c] at h2
            have := of_decide_eq_true h2.symm
            injection this
          have e : maxI (absI (x.2.1 - y.2.1)) (absI (x.2.2 - y.2.2)) = absI (x.2.1 - y.2.1) := by
            have := absI_nn (x.2.1 - y.2.1)
            rw [c', c2]
            unfold maxI
            rw [if_neg]
            show ¬ absI 0 > _
            rw [show absI 0 = 0 from rfl]
            omega
          rw [e] at q
          exact ⟨_, rfl, _, _, rfl, rfl, Or.inl ⟨by decide, by decide⟩, q⟩
        · refine ⟨_, rfl, Or.inl ⟨_, rfl, _, rfl, t, _, _, _, rfl, rfl, sx, a2, _, rfl, r, _, _, _, rfl, rfl, sy, b2, _, _, rfl, rfl, _, rfl, Or.inl ⟨_, rfl, _, _, rfl, _, _, rfl, rfl, Or.inl ⟨by decide, by decide⟩, q⟩⟩⟩
theorem ok_law_mt_near (D : Dn K mg "_law_mt_near" s_law_mt_near ["bar", "others", "w"]) (T : Bt mg) (f_law_mt_cost : Cal P w K mg base 1 "_law_mt_cost" (spCost K)) : Cal P w K mg base 2 "_law_mt_near" (spNearL K) := by
  refine cal_of D sc_law_mt_near (fun vs H Q E h => ?_) (fun f cdv A outer s H vs Q E hr h => ?_)
  · obtain ⟨v, u, x, ys, w, rfl, _⟩ := h
    rfl
  · obtain ⟨v, u, x, ys, iw, rfl, hx, hy, h80, q⟩ := h
    refine ⟨_, (pss_cons (ps_set (i := 3) sc_law_mt_near.nd rfl (Or.inl rfl) (pe_lst pa_nil))
      (pss_cons (ps_for PassesOwn.never rfl (pi_range1 (by rfl) T.m_range (pa_cons (pe_callB call_len_seq (by rfl) T.m_len PySem.boot_len (pa_cons (pv 1) pa_nil)) pa_nil)) (pg_name (i := 4) sc_law_mt_near.nd rfl (Or.inl rfl)) (pss_cons (ps_set (i := 5) sc_law_mt_near.nd rfl (Or.inl rfl) (LB.pe_c f_law_mt_cost hr (by decide) (by rfl) (pa_cons (pv 0) (pa_cons (pe_ix ix_tup (pv 1) (pv 4) (fun _ _ => rfl)) pa_nil))))
      (pss_one (ps_if (PW.pt (pw_and (pt_cmp (pc_notN (pv 5)) rfl) (pw_and1 (pt_cmpR op_le (pv 5) (pv 2) (nomark _))))) (pss_one (ps_expr (pe_bm PySem.F.plainAttrs_list PySem.F.slot_list_append PySem.F.type_list_append mt_append (pv 3) (pa_cons (pv 4) pa_nil)))) pss_nil))))
      (pss_one (ps_ret (pv 3))))), ?_⟩
    obtain ⟨t, xs, rfl, hs, ha⟩ := dp_bars hy
    have hl : xs.length = ys.length := by rw [ha.len, List.length_map]
    refine ⟨Nat.zero_le _, fun Dl hDl => ?_⟩
    refine ⟨_, rfl, t, xs, rfl, Or.inr (ex_t (Ex.new (o := .lst []) hDl) hs), _, rfl, by omega, by omega, for_range (lo := 0) (n := (xs.length : Int).toNat) (fun n σ H' => ∃ v4 v5, σ = [some v, some (V.ref t), some (.int iw), some (V.ref Dl), v4, v5] ∧ Ex H H' ∧ H' Dl = some (.lst (((List.range n).filter fun j => nearB x (ys.getD j (0, 0, 0)) iw).map fun j => V.int (j : Nat)))) ⟨none, none, rfl, Ex.new hDl, upd_same⟩ ?_ ?_⟩
    · rintro n σ H2 hn ⟨v4, v5, rfl, e2, hD2⟩
      have hn' : n < xs.length := by omega
      rw [Int.zero_add]
      obtain ⟨z, hz⟩ : ∃ z, xs[n]? = some z := ⟨xs[n], List.getElem?_eq_getElem hn'⟩
      obtain ⟨b, ub, hb, rfl, hst, hDb⟩ := dp_bar_get ha hz
      have hgj : ys.getD n (0, 0, 0) = b := by rw [List.getD_eq_getElem?_getD, hb]; rfl
      refine ⟨_, rfl, _, rfl, _, rfl, t, xs, _, _, rfl, rfl, ex_t e2 hs, at_of (by omega) hz, v, V.ref ub, x, b, rfl, hx.up e2, hDb.up e2, ?_⟩
      have nb : nearB x b iw = match costB x b with | none => false | some c => decide (c ≤ iw) := rfl
      cases hc : costB x b with
      | none =>
        have nb : nearB x b iw = false := by unfold nearB; rw [hc]
        refine ⟨_, rfl, _, rfl, iteF (iteF ⟨_, _, rfl, e2, ?_⟩)⟩
        rw [hD2, List.range_succ, List.filter_append, List.filter_cons, hgj, nb, if_neg (by decide), List.filter_nil, List.append_nil]
      | some c =>
        rw [hc] at nb
        refine ⟨_, rfl, _, rfl, iteT ⟨_, rfl, _, rfl, _, _, rfl, rfl, _, rfl, iteD (fun c0 => ?_) (fun c0 => ?_)⟩⟩
        · have nb' : nearB x b iw = true := nb.trans (decide_eq_true c0)
          refine ⟨_, rfl, Or.inl ⟨rfl, _, Or.inl (Or.inl hD2)⟩, _, rfl, Dl, _, _, rfl, rfl, hD2, Evl.sz_lt ?_, ⟨_, _, rfl, e2.mut (p := Dl) hDl, ?_⟩⟩
          · rw [List.length_map]
            refine Nat.lt_of_le_of_lt (List.length_filter_le _ _) ?_
            rw [List.length_range]
            omega
          · rw [upd_same, List.range_succ, List.filter_append, List.filter_cons, hgj, nb', if_pos rfl, List.map_append]
            rfl
        · have nb' : nearB x b iw = false := nb.trans (decide_eq_false c0)
          refine ⟨_, _, rfl, e2, ?_⟩
          rw [hD2, List.range_succ, List.filter_append, List.filter_cons, hgj, nb', if_neg (by decide), List.filter_nil, List.append_nil]
    · rintro σ H2 ⟨v4, v5, rfl, e2, hD2⟩
      refine ⟨_, rfl, q Dl H2 e2 ?_⟩
      rw [hD2, show ((xs.length : Int).toNat) = ys.length by omega]
      rfl
theorem ok_law_mt_there (D : Dn K mg "_law_mt_there" s_law_mt_there ["bars_now", "k", "s", "t"]) (T : Bt mg) : Cal P w K mg base 1 "_law_mt_there" (spThere K) := by
  refine cal_of D sc_law_mt_there (fun vs H Q E h => ?_) (fun f cdv A outer s H vs Q E hr h => ?_)
  · obtain ⟨v1, bs, k, s, t, rfl, _⟩ := h
    rfl
  · obtain ⟨v1, bs, k, s0, t0, rfl, h1, h80, q⟩ := h
    refine ⟨_, (pss_one (ps_ret (pe_callB call_len_seq (by rfl) T.m_len PySem.boot_len (pa_cons (pe_lc (own := [("bar", 4)]) rfl sc_law_mt_there.nd (pi_tup (pv 0)) (blkOk_by (N := ["bars_now", "k", "s", "t", "bar"]) (sc := defScope s_law_mt_there) (by decide +kernel)) (fun _ _ _ _ _ => (pg_name (i := 4) sc_law_mt_there.nd rfl (Or.inl rfl))) (fun _ _ _ _ _ => (pts_one (PW.pt (pw_and (pt_cmpR op_eq (pe_ix (ixK_tup (K := K) rfl) (pv 4) pe_int (fun _ _ => rfl)) (pv 1) (nomark _)) (pw_and (pt_cmpR op_le (pe_ix (ixK_tup (K := K) rfl) (pv 4) pe_int (fun _ _ => rfl)) (pv 2) (nomark _)) (pw_and1 (PW.pt (pw_or (pt_cmpR op_eq (pe_ix (ixK_tup (K := K) rfl) (pv 4) pe_int (fun _ _ => rfl)) (pe_un un_neg pe_int) (nomark _)) (pw_or1 (pt_cmpR op_gt (pe_ix (ixK_tup (K := K) rfl) (pv 4) pe_int (fun _ _ => rfl)) (pv 3) (nomark _))))))))))) (fun _ _ _ _ _ => (pv 4))) pa_nil)))), ?_⟩
    obtain ⟨t, xs, rfl, hs, ha⟩ := dp_bars h1
    have hl : xs.length = bs.length := by rw [ha.len, List.length_map]
    refine ⟨_, rfl, t, rfl, ⟨xs, hs⟩, fun Dl hDl => lc_tup (K := K) (a := t) (xs := xs) (fun i H2 => Ex H H2 ∧ ∃ acc, H2 Dl = some (.lst acc) ∧ acc.length = ((bs.take i).filter (onB k s0 t0)).length) ⟨Ex.new hDl, [], upd_same, rfl⟩ (fun i H2 _ ⟨e2, _⟩ => ex_t e2 hs) ?_ ?_⟩
    · rintro i x H2 hx ⟨e2, acc, ha2, hal⟩
      obtain ⟨b, u, hb, rfl, hst, _⟩ := dp_bar_get ha hx
      obtain ⟨a0, a1, a2⟩ := ix3 b
      have sb := ex_t (e2) hst
      have hle : acc.length ≤ 80 := by
        rw [hal]
        refine Nat.le_trans (List.length_filter_le _ _) ?_
        rw [List.length_take]
        omega
      have yes : onB k s0 t0 b = true → ∃ acc', upd H2 Dl (.lst (acc ++ [V.ref u])) Dl = some (.lst acc') ∧ acc'.length = ((bs.take (i + 1)).filter (onB k s0 t0)).length := fun hy => by
        refine ⟨_, upd_same, ?_⟩
        rw [take_at hb, List.filter_append, List.filter_cons, if_pos hy, List.length_append, List.length_append, hal]
        rfl
      have no : onB k s0 t0 b = false → acc.length = ((bs.take (i + 1)).filter (onB k s0 t0)).length := fun hy => by
        rw [take_at hb, List.filter_append, List.filter_cons, if_neg (by rw [hy]; decide), List.filter_nil, List.append_nil, hal]
      refine ⟨rfl, _, rfl, u, _, _, _, rfl, rfl, sb, a0, _, rfl, rfl, _, rfl, ?_⟩
      have Y : onB k s0 t0 b = true → acc.length < sizeLine ∧ Ex H (upd H2 Dl (.lst (acc ++ [V.ref u]))) ∧ ∃ acc', upd H2 Dl (HO.lst (acc ++ [V.ref u])) Dl = some (HO.lst acc') ∧ acc'.length = ((bs.take (i + 1)).filter (onB k s0 t0)).length := fun h => ⟨Evl.sz_lt (by omega), e2.mut (p := Dl) hDl, yes h⟩
      cases c1 : decide (V.int b.1 = V.int k) with
      | false => exact iteF (iteF ⟨e2, acc, ha2, no (by unfold onB; rw [c1]; rfl)⟩)
      | true =>
        refine iteT ⟨_, rfl, u, _, _, _, rfl, rfl, sb, a1, _, rfl, _, _, rfl, rfl, _, rfl, ?_⟩
        cases c2 : decide (b.2.1 ≤ s0) with
        | false => exact iteF (iteF ⟨e2, acc, ha2, no (by unfold onB; rw [c1, c2]; rfl)⟩)
        | true =>
          refine iteT ⟨_, rfl, u, _, _, _, rfl, rfl, sb, a2, _, rfl, rfl, _, rfl, ?_⟩
          cases c3 : decide (V.int b.2.2 = V.int (-1)) with
          | true => exact iteT (iteT ⟨_, rfl, acc, ha2, Y (by unfold onB; rw [c1, c2, c3]; rfl)⟩)
          | false =>
            refine iteF ⟨_, rfl, u, _, _, _, rfl, rfl, sb, a2, _, rfl, _, _, rfl, rfl, _, rfl, ?_⟩
            cases c4 : decide (t0 < b.2.2) with
            | true => exact iteT ⟨_, rfl, acc, ha2, Y (by unfold onB; rw [c1, c2, c3]; exact c4)⟩
            | false => exact iteF ⟨e2, acc, ha2, no (by unfold onB; rw [c1, c2, c3]; exact c4)⟩
    · rintro H2 ⟨e2, acc, ha2, hal⟩
      rw [hl, List.take_length] at hal
      refine ⟨Dl, acc, rfl, Or.inl (Or.inl (Or.inl ha2)), ?_⟩
      rw [hal]
      exact q H2 e2
theorem ok_law_bl_early (D : Dn K mg "_law_bl_early" s_law_bl_early ["s"]) (T : Bt mg) (f_law_is_whole : Cal P w K mg base 1 "_law_is_whole" (spIsW K)) : Cal P w K mg base 2 "_law_bl_early" (spEarly K) := by
  refine cal_of D sc_law_bl_early (fun vs H Q E h => ?_) (fun f cdv A outer s H vs Q E hr h => ?_)
  · obtain ⟨v, d, rfl, _⟩ := h
    rfl
  · obtain ⟨v, d, rfl, hd, q⟩ := h
    refine ⟨_, (pss_one (ps_ret (pe_ifExp (PW.pt (pw_or (pt_not (pt_val (LB.pe_c f_law_is_whole hr (by decide) (by rfl) (pa_cons (pv 0) pa_nil)))) (pw_or1 (pt_cmpR op_gt (pv 0) pe_int (nomark _))))) (pv 0) pe_int))), ?_⟩
    refine ⟨_, rfl, v, d, rfl, hd, _, rfl, ?_⟩
    cases hd with
    | int i =>
      refine iteF ⟨_, rfl, _, _, rfl, rfl, _, rfl, iteD (fun c => ?_) (fun c => ?_)⟩
      · have e : earlyD (.int i) = .int i := if_pos c
        exact ⟨_, rfl, q _ (by rw [e]; exact .int i)⟩
      · have e : earlyD (.int i) = .int 8 := if_neg c
        exact q _ (by rw [e]; exact .int 8)
    | non => exact iteT ⟨_, rfl, q _ .non⟩
    | bl b => exact iteT ⟨_, rfl, q _ (.bl b)⟩
    | str x => exact iteT ⟨_, rfl, q _ (.str x)⟩
    | lst a b => exact iteT ⟨_, rfl, q _ (.lst a b)⟩
    | tup a b => exact iteT ⟨_, rfl, q _ (.tup a b)⟩
end
end K22
end
section
set_option Elab.async false
set_option linter.all false
set_option maxRecDepth 100000
set_option maxHeartbeats 4000000
namespace K22
open PySem PySem.Spec PyProof.Rows L2 LB Evl
def spDrawn (K : PySem.W.Frag) : Sp := fun vs H Q _ => ∃ (j : Addr) (top dims : Int), vs = [.ref j, .int top, .int dims] ∧ Jar H j ∧ 1 ≤ top ∧ top ≤ 4000000 ∧ 1 ≤ dims ∧ dims ≤ 6 ∧
  ∀ (v : V) (x : Bar) (H' : Hp), goodB x = true → Jar H' j → But [j] H H' → Dp K (cut [j] H') v (barD x) → Q v H'
theorem Jar.ex {H H' : Hp} {j : Addr} (J : Jar H j) (e : Ex H H') : Jar H' j := by
  obtain ⟨a, b, h, r⟩ := J
  exact ⟨a, b, e _ _ h, r⟩
theorem Jar.ne {H : Hp} {j p : Addr} (J : Jar H j) (h : H p = none) : p ≠ j := fun z => by
  obtain ⟨a, b, e, _⟩ := J
  rw [← z, h] at e
  cases e
theorem bar_new {K : PySem.W.Frag} {H : Hp} {t : Addr} {S : List Addr} (hS : t ∉ S) (k b d : Int) : Dp K (cut S (upd H t (.tup [.int k, .int b, .int d]))) (.ref t) (barD (k, b, d)) :=
  .tup (Or.inl (Or.inl (by rw [cut_out hS, upd_same]))) (.cons (.int _) (.cons (.int _) (.cons (.int _) .nil)))
theorem good_of {k b d : Int} (h : 0 ≤ k ∧ k ≤ 5 ∧ 0 ≤ b ∧ b ≤ 4000000 ∧ (d = -1 ∨ (b < d ∧ d ≤ 4000000))) : goodB (k, b, d) = true := decide_eq_true h
section
variable {P : Program} {w : World} {K : PySem.W.Frag} {mg : Str → Option Value} {base : Heap}
theorem ok_law_mt_bar_drawn (D : Dn K mg "_law_mt_bar_drawn" s_law_mt_bar_drawn ["jar", "top", "dims"]) (f_law_take : Cal P w K mg base 1 "_law_take" spTake) : Cal P w K mg base 2 "_law_mt_bar_drawn" (spDrawn K) := by
  refine cal_of D sc_law_mt_bar_drawn (fun vs H Q E h => ?_) (fun f cdv A outer s H vs Q E hr h => ?_)
  · obtain ⟨j, top, dims, rfl, _⟩ := h
    rfl
  · obtain ⟨j, top, dims, rfl, J, t1, t2, d1, d2, q⟩ := h
    refine ⟨_, (pss_cons (ps_set (i := 3) sc_law_mt_bar_drawn.nd rfl (Or.inl rfl) (LB.pe_c f_law_take hr (by decide) (by rfl) (pa_cons (pv 0) (pa_cons (pv 1) pa_nil))))
      (pss_one (ps_ret (pe_tup (pa_cons (LB.pe_c f_law_take hr (by decide) (by rfl) (pa_cons (pv 0) (pa_cons (pv 2) pa_nil))) (pa_cons (pv 3) (pa_cons (pe_ifExp (pt_cmpR op_eq (LB.pe_c f_law_take hr (by decide) (by rfl) (pa_cons (pv 0) (pa_cons pe_int pa_nil))) pe_int (nomark _)) (pe_un un_neg pe_int) (pe_op op_add (pe_op op_add (pv 3) pe_int) (LB.pe_c f_law_take hr (by decide) (by rfl) (pa_cons (pv 0) (pa_cons (pe_op op_sub (pv 1) (pv 3)) pa_nil))))) pa_nil))))))), ?_⟩
    have h3 : 3 ≤ sizeLine := by decide
    refine ⟨_, rfl, _, rfl, j, top, rfl, J, t1, by omega, fun b H1 hb J1 B1 => ?_⟩
    refine ⟨_, rfl, _, rfl, j, dims, rfl, J1, d1, by omega, fun k H2 hk J2 B2 => ?_⟩
    refine ⟨_, rfl, _, rfl, j, 6, rfl, J2, by decide, by decide, fun c H3 hc J3 B3 => ?_⟩
    refine ⟨rfl, _, rfl, iteD (fun c0 => ?_) (fun c0 => ?_)⟩
    · refine ⟨_, rfl, h3, fun t ht => ?_⟩
      have e := Ex.new (o := .tup [.int (k : Nat), .int (b : Nat), .int (-1)]) ht
      exact q _ (k, b, -1) _ (good_of (by omega)) (J3.ex e) (((B1.trans B2).trans B3).trans (But.of e)) (bar_new (by simpa using J3.ne ht) _ _ _)
    · refine ⟨_, rfl, _, _, rfl, rfl, _, rfl, _, rfl, _, rfl, _, _, rfl, rfl, j, top - b, rfl, J3, by omega, by omega, fun z H4 hz J4 B4 => ?_⟩
      refine ⟨_, _, rfl, rfl, h3, fun t ht => ?_⟩
      have e := Ex.new (o := .tup [.int (k : Nat), .int (b : Nat), .int ((b : Int) + 1 + (z : Nat))]) ht
      exact q _ (k, b, (b : Int) + 1 + (z : Nat)) _ (good_of (by omega)) (J4.ex e) ((((B1.trans B2).trans B3).trans B4).trans (But.of e)) (bar_new (by simpa using J4.ne ht) _ _ _)
end
end K22
end
section
set_option Elab.async false
set_option linter.all false
set_option maxRecDepth 100000
set_option maxHeartbeats 4000000
namespace K22
open PySem PySem.Spec PyProof.Rows L2 LB Evl
theorem lexLt_dec : ∀ xs ys : List Int, HT.lexLt xs ys = decide (xs < ys)
  | [], [] => by rw [decide_eq_false (by simp)]; rfl
  | [], y :: ys => by rw [decide_eq_true (by simp)]; rfl
  | x :: xs, [] => by rw [decide_eq_false (by simp)]; rfl
  | x :: xs, y :: ys => by
    rw [HT.lexLt_cons, lexLt_dec xs ys, Bool.eq_iff_iff, decide_eq_true_eq, List.cons_lt_cons_iff]
    by_cases h : x = y
    · rw [if_pos h, decide_eq_true_eq]
      constructor
      · exact fun z => Or.inr ⟨h, z⟩
      · rintro (z | z)
        · omega
        · exact z.2
    · rw [if_neg h, decide_eq_true_eq]
      constructor
      · exact Or.inl
      · rintro (z | z)
        · exact z
        · exact absurd z.1 h
def nums (b : Bar) : List Int := [b.1, b.2.1, b.2.2]
theorem ltB_dec (x y : Bar) : ltB x y = decide (nums x < nums y) := lexLt_dec _ _
theorem dp_paired {K : PySem.W.Frag} {H : Hp} : ∀ {items : List V} {bs : List Bar}, DpAll K H items (bs.map barD) → Paired (fun v b => Dp K H v (barD b)) items bs
  | [], [], _ => .nil
  | [], _ :: _, h => by cases h
  | _ :: _, [], h => by cases h
  | v :: items, b :: bs, h => by
    cases h with
    | cons h1 h2 => exact .cons h1 (dp_paired h2)
theorem paired_dp {K : PySem.W.Frag} {H : Hp} : ∀ {items : List V} {bs : List Bar}, Paired (fun v b => Dp K H v (barD b)) items bs → DpAll K H items (bs.map barD)
  | _, _, .nil => .nil
  | _, _, .cons h t => .cons h (paired_dp t)
theorem zip_self {β : Type} (g : Bar → β) : ∀ l : List Bar, l.zip (l.map g) = l.map fun r => (r, g r)
  | [] => rfl
  | r :: l => by rw [List.map_cons, List.map_cons, List.zip_cons_cons, zip_self g l]
theorem sort_bars {K : PySem.W.Frag} {H : Hp} {items : List V} {bs : List Bar} (h : DpAll K H items (bs.map barD)) : ∃ bs' : List Bar, DpAll K H (byK items (bs.map barD)) (bs'.map barD) ∧ bs'.Perm bs ∧
    ∀ (i : Nat) (x y : Bar), bs'[i]? = some x → bs'[i + 1]? = some y → ltB y x = false := by
  have hl : items.length = bs.length := by rw [h.len, List.length_map]
  have e : byK bs (bs.map barD) = bs.mergeSort (fun a b => decide (nums a ≤ nums b)) := by
    unfold byK
    rw [zip_self barD, ← PySem.W.sort_maps (r := fun a b => decide (nums a ≤ nums b)) (s := PySem.W.dataLe false Prod.snd) (fun r : Bar => (r, barD r)) (fun a _ b _ => ?_), List.map_map]
    · show List.map (fun r => r) _ = _
      rw [List.map_id']
    · have := congrFun (congrFun (dataLe_trows nums) a) b
      exact this.symm
  refine ⟨byK bs (bs.map barD), paired_dp (byK_paired (dp_paired h) _ (by rw [List.length_map, hl])), ?_, fun i x y hx hy => ?_⟩
  · rw [e]
    exact List.mergeSort_perm _ _
  · rw [e] at hx hy
    have hs := List.pairwise_mergeSort (le := fun a b : Bar => decide (nums a ≤ nums b)) (fun a b c h1 h2 => decide_eq_true (List.le_trans (of_decide_eq_true h1) (of_decide_eq_true h2))) (fun a b => by
      rcases List.le_total (nums a) (nums b) with h | h
      · simp [h]
      · simp [h]) bs
    rw [List.pairwise_iff_getElem] at hs
    obtain ⟨h1, rfl⟩ := List.getElem?_eq_some_iff.mp hx
    obtain ⟨h2, rfl⟩ := List.getElem?_eq_some_iff.mp hy
    have := of_decide_eq_true (hs i (i + 1) h1 h2 (by omega))
    rw [ltB_dec]
    exact decide_eq_false (List.not_lt.mpr this)
theorem bars_alike (bs : List Bar) : PySem.W.AllAlike (bs.map barD) := by
  intro d hd d' hd'
  obtain ⟨x, _, rfl⟩ := List.mem_map.mp hd
  obtain ⟨y, _, rfl⟩ := List.mem_map.mp hd'
  exact alike_ints (nums x) (nums y)
theorem bars_sortable (bs : List Bar) : PySem.W.Sortable (bs.map barD) := Or.inl fun d hd => by
  obtain ⟨x, _, rfl⟩ := List.mem_map.mp hd
  exact ⟨_, _, rfl⟩
theorem bars_deep (bs : List Bar) : ∀ d ∈ bs.map barD, d.depth ≤ 8 := fun d hd => by
  obtain ⟨x, _, rfl⟩ := List.mem_map.mp hd
  simp [barD, PyData.depthAll, PyData.depth]
theorem bar_cut {K : PySem.W.Frag} {H : Hp} {S : List Addr} {p : Addr} {acc : List V} {v : V} {x : Bar} (h : Dp K (cut S H) v (barD x)) (hp : H p = some (.lst acc)) : Dp K (cut (p :: S) H) v (barD x) := by
  cases h with
  | tup hs ha =>
    cases ha with
    | cons a1 a2 =>
      cases a2 with
      | cons a2 a3 =>
        cases a3 with
        | cons a3 a4 =>
          cases a4
          cases a1
          cases a2
          cases a3
          refine .tup ?_ (.cons (.int _) (.cons (.int _) (.cons (.int _) .nil)))
          rcases hs with hs | hs
          · refine Or.inl ?_
            rcases hs with hs | ⟨o, hs⟩
            · have h1 := (cut_some hs)
              refine Or.inl ?_
              rw [cut_out ?_]
              · exact h1.2
              · rintro (_ | ⟨_, z⟩)
                · rw [hp] at h1
                  cases h1.2
                · exact h1.1 z
            · have h1 := (cut_some hs)
              refine Or.inr ⟨o, ?_⟩
              rw [cut_out ?_]
              · exact h1.2
              · rintro (_ | ⟨_, z⟩)
                · rw [hp] at h1
                  cases h1.2
                · exact h1.1 z
          · exact Or.inr hs
end K22
end
section
set_option Elab.async false
set_option linter.all false
set_option maxRecDepth 100000
set_option maxHeartbeats 4000000
namespace K22
open PySem PySem.Spec PyProof.Rows L2 LB Evl
def spBarsDrawn (K : PySem.W.Frag) : Sp := fun vs H Q _ => ∃ (j : Addr) (many top dims : Int), vs = [.ref j, .int many, .int top, .int dims] ∧ Jar H j ∧ 0 ≤ many ∧ many ≤ 12 ∧ 1 ≤ top ∧ top ≤ 4000000 ∧ 1 ≤ dims ∧ dims ≤ 6 ∧
  ∀ (v : V) (bs : List Bar) (H' : Hp), BarsOk bs → bs.length ≤ 12 → Jar H' j → But [j] H H' → Dp K (cut [j] H') v (barsD bs) → Q v H'
theorem add_bar {K : PySem.W.Frag} {H H' : Hp} {j p : Addr} {acc : List V} {bs : List Bar} {v : V} {x : Bar} (npj : p ≠ j) (ha : DpAll K (cut [p, j] H) acc (bs.map barD)) (B : But [j] H H') (hp : H' p = some (.lst acc)) (hv : Dp K (cut [j] H') v (barD x)) :
    DpAll K (cut [p, j] (upd H' p (.lst (acc ++ [v])))) (acc ++ [v]) ((bs ++ [x]).map barD) := by
  rw [List.map_append]
  have b1 : But [p, j] H H' := B.more (by simp)
  have b2 : But [p, j] H' (upd H' p (.lst (acc ++ [v]))) := But.put (by simp)
  exact (ha.up (b1.trans b2).cut).app (.cons ((bar_cut hv hp).up b2.cut) .nil)
section
variable {P : Program} {w : World} {K : PySem.W.Frag} {mg : Str → Option Value} {base : Heap}
theorem ok_law_mt_bars_drawn (D : Dn K mg "_law_mt_bars_drawn" s_law_mt_bars_drawn ["jar", "many", "top", "dims"]) (T : Bt mg) (f_law_take : Cal P w K mg base 1 "_law_take" spTake) (f_law_one : Cal P w K mg base 2 "_law_one" (spOne K)) (f_law_mt_bar_drawn : Cal P w K mg base 2 "_law_mt_bar_drawn" (spDrawn K)) : Cal P w K mg base 3 "_law_mt_bars_drawn" (spBarsDrawn K) := by
  refine cal_of D sc_law_mt_bars_drawn (fun vs H Q E h => ?_) (fun f cdv A outer s H vs Q E hr h => ?_)
  · obtain ⟨j, many, top, dims, rfl, _⟩ := h
    rfl
  · obtain ⟨j, many, top, dims, rfl, J, m1, m2, t1, t2, d1, d2, q⟩ := h
    have hu64 : (A.deeper (envOfC "_law_mt_bars_drawn" (defScope s_law_mt_bars_drawn) s.heap.objs.size f cdv)).units + 16 < cLine := by
      have := hr.un
      omega
    have hu := hu64
    refine ⟨_, (pss_cons (ps_set (i := 4) sc_law_mt_bars_drawn.nd rfl (Or.inl rfl) (pe_lst pa_nil))
      (pss_cons (ps_for PassesOwn.never rfl (pi_range1 (by rfl) T.m_range (pa_cons (LB.pe_c f_law_take hr (by decide) (by rfl) (pa_cons (pv 0) (pa_cons (pe_op op_add (pv 1) pe_int) pa_nil))) pa_nil)) (pg_name (i := 5) sc_law_mt_bars_drawn.nd rfl (Or.inl rfl)) (pss_cons (ps_set (i := 6) sc_law_mt_bars_drawn.nd rfl (Or.inl rfl) (pe_and (pe_cmpR (op_neP hu64) (pv 4) (pe_lst pa_nil) (nomark _)) (pe_one (pe_cmpR op_eq (LB.pe_c f_law_take hr (by decide) (by rfl) (pa_cons (pv 0) (pa_cons pe_int pa_nil))) pe_int (nomark _)))))
      (pss_one (ps_expr (pe_bm PySem.F.plainAttrs_list PySem.F.slot_list_append PySem.F.type_list_append mt_append (pv 4) (pa_cons (pe_ifExp (pt_val (pv 6)) (LB.pe_c f_law_one hr (by decide) (by rfl) (pa_cons (pv 0) (pa_cons (pv 4) pa_nil))) (LB.pe_c f_law_mt_bar_drawn hr (by decide) (by rfl) (pa_cons (pv 0) (pa_cons (pv 2) (pa_cons (pv 3) pa_nil))))) pa_nil))))))
      (pss_one (ps_ret (pe_callTy call_tuple_of (by rfl) T.m_tuple (by decide +kernel) (pa_cons (pe_callB (call_sortD hu) (by rfl) T.m_sorted (by decide +kernel) (pa_cons (pv 4) pa_nil)) pa_nil)))))), ?_⟩
    refine ⟨Nat.zero_le _, fun p hp => ?_⟩
    have npj := J.ne hp
    refine ⟨_, rfl, _, rfl, _, _, rfl, rfl, j, many + 1, rfl, J.ex (Ex.new hp), by omega, by omega, fun n H1 hn J1 B1 => ?_⟩
    have B1' : But [j] H H1 := (But.of (Ex.new hp)).trans B1
    have h1p : H1 p = some (.lst []) := B1 _ _ (by simpa using npj) upd_same
    refine ⟨_, rfl, by omega, by omega, for_range (lo := 0) (n := ((n : Nat) : Int).toNat) (fun i σ H2 => ∃ acc bs v5 v6, σ = [some (.ref j), some (.int many), some (.int top), some (.int dims), some (.ref p), v5, v6] ∧ Jar H2 j ∧ But [j] H H2 ∧ H2 p = some (.lst acc) ∧ DpAll K (cut [p, j] H2) acc (bs.map barD) ∧ (∀ x ∈ bs, goodB x = true) ∧ bs.length = i) ⟨[], [], none, none, rfl, J1, B1', h1p, .nil, (fun x h => by cases h), rfl⟩ ?_ ?_⟩
    · rintro i σ H2 hi ⟨acc, bs, v5, v6, rfl, J2, B2, h2p, ha, hg, hlen⟩
      have hal : acc.length = bs.length := by rw [ha.len, List.length_map]
      refine ⟨_, rfl, Nat.zero_le _, fun l0 hl0 => ?_⟩
      have e0 := Ex.new (o := .lst []) hl0
      have J3 := J2.ex e0
      have h3p := e0 _ _ h2p
      refine ⟨_, _, .lst (Or.inl (Or.inl h3p)) (ha.up (ex_cut.trans e0)), .lst (Or.inl (Or.inl upd_same)) .nil, min_lnil _, _, rfl, ?_⟩
      rw [eqv_lnil]
      generalize upd H2 l0 (.lst []) = H3 at e0 J3 h3p ⊢
      cases bs with
      | nil =>
        refine iteF ⟨_, rfl, Or.inl ⟨rfl, _, Or.inl (Or.inl h3p)⟩, _, rfl, _, rfl, iteF ⟨_, rfl, _, rfl, _, rfl, j, top, dims, rfl, J3, t1, t2, d1, d2, fun v x H5 gx J5 B5 hv => ?_⟩⟩
        have B6 : But [j] H2 H5 := (But.of e0).trans B5
        have h5p := B5 _ _ (by simpa using npj) h3p
        refine ⟨p, acc, v, rfl, rfl, h5p, Evl.sz_lt (by omega), acc ++ [v], [] ++ [x], _, _, rfl, ?_, ?_, upd_same, add_bar npj ha B6 h5p hv, ?_, ?_⟩
        · obtain ⟨a, b, hj, hv2⟩ := J5
          exact ⟨a, b, by rw [upd_ne npj.symm]; exact hj, hv2⟩
        · exact ((((B2.trans B6).more (by simp)).trans (But.put (S := [p, j]) (by simp))).drop hp)
        · intro y hy
          rcases List.mem_append.mp hy with z | z
          · exact hg y z
          · rw [List.mem_singleton.mp z]
            exact gx
        · rw [List.length_append, hlen]
          rfl
      | cons b0 bs0 =>
        refine iteT ⟨_, rfl, j, 8, rfl, J3, by decide, by decide, fun c H4 hc J4 B4 => ⟨rfl, ?_⟩⟩
        have h4p := B4 _ _ (by simpa using npj) h3p
        refine ⟨_, rfl, Or.inl ⟨rfl, _, Or.inl (Or.inl h4p)⟩, _, rfl, _, rfl, iteD (fun c0 => ?_) (fun c0 => ?_)⟩
        · have ha4 : DpAll K (cut [j] H4) acc ((b0 :: bs0).map barD) := (ha.up ((((But.of e0).trans B4).more (by simp)).cut)).up (fun a o h => by
            obtain ⟨h1, h2⟩ := cut_some h
            rw [cut_out (fun z => h1 (List.mem_cons_of_mem _ z))]
            exact h2)
          refine ⟨_, rfl, _, rfl, j, p, acc, rfl, J4, Or.inl (Or.inl (Or.inl (by rw [cut_out (by simpa using npj)]; exact h4p))), by rw [hal]; exact Nat.succ_le_succ (Nat.zero_le _), by omega, fun i0 v H5 hv0 J5 B5 => ?_⟩
          obtain ⟨d0, hd0, hv1⟩ := ha4.get hv0
          rw [List.getElem?_map] at hd0
          obtain ⟨x, hx, rfl⟩ := Option.map_eq_some_iff.mp hd0
          have gx := hg x (List.mem_of_getElem? hx)
          have hv := hv1.up B5.cut
          have B6 : But [j] H2 H5 := ((But.of e0).trans B4).trans B5
          have h5p := B5 _ _ (by simpa using npj) h4p
          refine ⟨p, acc, v, rfl, rfl, h5p, Evl.sz_lt (by omega), acc ++ [v], (b0 :: bs0) ++ [x], _, _, rfl, ?_, ?_, upd_same, add_bar npj ha B6 h5p hv, ?_, ?_⟩
          · obtain ⟨a, b, hj, hv2⟩ := J5
            exact ⟨a, b, by rw [upd_ne npj.symm]; exact hj, hv2⟩
          · exact ((((B2.trans B6).more (by simp)).trans (But.put (S := [p, j]) (by simp))).drop hp)
          · intro y hy
            rcases List.mem_append.mp hy with z | z
            · exact hg y z
            · rw [List.mem_singleton.mp z]
              exact gx
          · rw [List.length_append, hlen]
            rfl
        · refine ⟨_, rfl, _, rfl, _, rfl, j, top, dims, rfl, J4, t1, t2, d1, d2, fun v x H5 gx J5 B5 hv => ?_⟩
          have B6 : But [j] H2 H5 := ((But.of e0).trans B4).trans B5
          have h5p := B5 _ _ (by simpa using npj) h4p
          refine ⟨p, acc, v, rfl, rfl, h5p, Evl.sz_lt (by omega), acc ++ [v], (b0 :: bs0) ++ [x], _, _, rfl, ?_, ?_, upd_same, add_bar npj ha B6 h5p hv, ?_, ?_⟩
          · obtain ⟨a, b, hj, hv2⟩ := J5
            exact ⟨a, b, by rw [upd_ne npj.symm]; exact hj, hv2⟩
          · exact ((((B2.trans B6).more (by simp)).trans (But.put (S := [p, j]) (by simp))).drop hp)
          · intro y hy
            rcases List.mem_append.mp hy with z | z
            · exact hg y z
            · rw [List.mem_singleton.mp z]
              exact gx
          · rw [List.length_append, hlen]
            rfl
    · rintro σ H2 ⟨acc, bs, v5, v6, rfl, J2, B2, h2p, ha, hg, hlen⟩
      refine ⟨_, rfl, p, acc, _, rfl, Or.inl (Or.inl h2p), ha.up ex_cut, bars_alike bs, bars_sortable bs, bars_deep bs, fun r hr2 => ?_⟩
      obtain ⟨bs', hs', hp', ho'⟩ := sort_bars ha
      refine ⟨r, _, rfl, Or.inl ⟨Or.inl (Or.inl upd_same), fun l hl2 => ?_⟩⟩
      have e3 := Ex.new (o := .lst (byK acc (bs.map barD))) hr2
      have e4 := Ex.new (o := .tup (byK acc (bs.map barD))) hl2
      refine q (.ref l) bs' _ ⟨fun x hx => hg x (hp'.mem_iff.mp hx), ho', by rw [hp'.length_eq]; omega⟩ (by rw [hp'.length_eq]; omega) (J2.ex (e3.trans e4)) (B2.trans (But.of (e3.trans e4))) (.tup (Or.inl (Or.inl ?_)) (hs'.up ?_))
      · rw [cut_out (by simpa using (J2.ex e3).ne hl2), upd_same]
      · exact fun a o h => But.cut (But.of (e3.trans e4)) a o (by
          obtain ⟨h1, h2⟩ := cut_some h
          rw [cut_out (fun z => h1 (List.mem_cons_of_mem _ z))]
          exact h2)
end
end K22
end
section
set_option pp.maxSteps 400
set_option Elab.async false
set_option linter.all false
set_option maxRecDepth 100000
set_option maxHeartbeats 4000000
namespace K22
open PySem PySem.Spec PyProof.Rows L2 LB Evl
def spMoved (K : PySem.W.Frag) : Sp := fun vs H Q _ => ∃ (j : Addr) (u : V) (ds : List Bar) (top : Int), vs = [.ref j, u, .int top, .int 2] ∧ Jar H j ∧ Dp K (cut [j] H) u (barsD ds) ∧ (∀ x ∈ ds, goodB x = true) ∧ ds.length ≤ 12 ∧ 2 ≤ top ∧ top ≤ 4000000 ∧
  ∀ (v : V) (bs : List Bar) (H' : Hp), BarsOk bs → bs.length ≤ 13 → Jar H' j → But [j] H H' → Dp K (cut [j] H') v (barsD bs) → Q v H'
theorem Jar.put {H : Hp} {j p : Addr} {o : HO} (J : Jar H j) (n : p ≠ j) : Jar (upd H p o) j := by
  obtain ⟨a, b, hj, hv⟩ := J
  exact ⟨a, b, by rw [upd_ne n.symm]; exact hj, hv⟩
theorem min2_to {i j : Int} {H : Hp} {Q : VK} (h : ∀ B : Int, ((j < i ∧ B = j) ∨ (¬ j < i ∧ B = i)) → Q (.int B) H) : ∃ i' j' : Int, [V.int i, V.int j] = [.int i', .int j'] ∧ Q (.int (if j' < i' then j' else i')) H := by
  refine ⟨i, j, rfl, h _ ?_⟩
  by_cases c : j < i
  · exact Or.inl ⟨c, if_pos c⟩
  · exact Or.inr ⟨c, if_neg c⟩
theorem max2_to {i j : Int} {H : Hp} {Q : VK} (h : ∀ B : Int, ((i < j ∧ B = j) ∨ (¬ i < j ∧ B = i)) → Q (.int B) H) : ∃ i' j' : Int, [V.int i, V.int j] = [.int i', .int j'] ∧ Q (.int (if j' > i' then j' else i')) H := by
  refine ⟨i, j, rfl, h _ ?_⟩
  by_cases c : i < j
  · exact Or.inl ⟨c, if_pos c⟩
  · exact Or.inr ⟨c, if_neg c⟩
section
variable {P : Program} {w : World} {K : PySem.W.Frag} {mg : Str → Option Value} {base : Heap}
theorem ok_law_mt_moved (D : Dn K mg "_law_mt_moved" s_law_mt_moved ["jar", "bars_now", "top", "far"]) (T : Bt mg) (f_law_take : Cal P w K mg base 1 "_law_take" spTake) : Cal P w K mg base 2 "_law_mt_moved" (spMoved K) := by
  refine cal_of D sc_law_mt_moved (fun vs H Q E h => ?_) (fun f cdv A outer s H vs Q E hr h => ?_)
  · obtain ⟨j, u, ds, top, rfl, _⟩ := h
    rfl
  · obtain ⟨j, u, ds, top, rfl, J, hu0, hgd, hl12, t1, t2, q⟩ := h
    have hu : (A.deeper (envOfC "_law_mt_moved" (defScope s_law_mt_moved) s.heap.objs.size f cdv)).units + 16 < cLine := by
      have := hr.un
      omega
    refine ⟨_, (pss_cons (ps_set (i := 4) sc_law_mt_moved.nd rfl (Or.inl rfl) (pe_lst pa_nil))
      (pss_cons (ps_for PassesOwn.never rfl (pi_tup (pv 1)) (pg_tup rfl (pgs_cons (pg_name (i := 5) sc_law_mt_moved.nd rfl (Or.inl rfl)) (pgs_cons (pg_name (i := 6) sc_law_mt_moved.nd rfl (Or.inl rfl)) (pgs_cons (pg_name (i := 7) sc_law_mt_moved.nd rfl (Or.inl rfl)) pgs_nil)))) (pss_cons (ps_set (i := 6) sc_law_mt_moved.nd rfl (Or.inl rfl) (pe_callB (call_min2 rfl) (by rfl) T.m_min (by decide +kernel) (pa_cons (pe_op op_sub (pv 2) pe_int) (pa_cons (pe_callB (call_max2 rfl) (by rfl) T.m_max (by decide +kernel) (pa_cons pe_int (pa_cons (pe_op op_sub (pe_op op_add (pe_callTy call_int1 (by rfl) T.m_int (by decide +kernel) (pa_cons (pv 6) pa_nil)) (LB.pe_c f_law_take hr (by decide) (by rfl) (pa_cons (pv 0) (pa_cons (pe_op op_add (pe_op op_mul pe_int (pv 3)) pe_int) pa_nil)))) (pv 3)) pa_nil))) pa_nil))))
      (pss_cons (ps_set (i := 7) sc_law_mt_moved.nd rfl (Or.inl rfl) (pe_ifExp (pt_cmpR op_eq (pv 7) (pe_un un_neg pe_int) (nomark _)) (pe_un un_neg pe_int) (pe_callB (call_min2 rfl) (by rfl) T.m_min (by decide +kernel) (pa_cons (pv 2) (pa_cons (pe_callB (call_max2 rfl) (by rfl) T.m_max (by decide +kernel) (pa_cons (pe_op op_add (pv 6) pe_int) (pa_cons (pe_op op_sub (pe_op op_add (pe_callTy call_int1 (by rfl) T.m_int (by decide +kernel) (pa_cons (pv 7) pa_nil)) (LB.pe_c f_law_take hr (by decide) (by rfl) (pa_cons (pv 0) (pa_cons (pe_op op_add (pe_op op_mul pe_int (pv 3)) pe_int) pa_nil)))) (pv 3)) pa_nil))) pa_nil)))))
      (pss_one (ps_if (PW.pt (pw_or (pt_cmpR op_eq (pv 7) (pe_un un_neg pe_int) (nomark _)) (pw_or1 (pt_cmpR op_gt (LB.pe_c f_law_take hr (by decide) (by rfl) (pa_cons (pv 0) (pa_cons pe_int pa_nil))) pe_int (nomark _))))) (pss_one (ps_expr (pe_bm PySem.F.plainAttrs_list PySem.F.slot_list_append PySem.F.type_list_append mt_append (pv 4) (pa_cons (pe_tup (pa_cons (pv 5) (pa_cons (pv 6) (pa_cons (pv 7) pa_nil)))) pa_nil)))) pss_nil)))))
      (pss_cons (ps_if (pt_cmpR op_eq (LB.pe_c f_law_take hr (by decide) (by rfl) (pa_cons (pv 0) (pa_cons pe_int pa_nil))) pe_int (nomark _)) (pss_cons (ps_set (i := 6) sc_law_mt_moved.nd rfl (Or.inl rfl) (LB.pe_c f_law_take hr (by decide) (by rfl) (pa_cons (pv 0) (pa_cons (pe_op op_sub (pv 2) pe_int) pa_nil))))
      (pss_one (ps_expr (pe_bm PySem.F.plainAttrs_list PySem.F.slot_list_append PySem.F.type_list_append mt_append (pv 4) (pa_cons (pe_tup (pa_cons (LB.pe_c f_law_take hr (by decide) (by rfl) (pa_cons (pv 0) (pa_cons pe_int pa_nil))) (pa_cons (pv 6) (pa_cons (pe_callB (call_min2 rfl) (by rfl) T.m_min (by decide +kernel) (pa_cons (pv 2) (pa_cons (pe_op op_add (pe_op op_add (pv 6) pe_int) (LB.pe_c f_law_take hr (by decide) (by rfl) (pa_cons (pv 0) (pa_cons (pe_op op_add (pv 3) pe_int) pa_nil)))) pa_nil))) pa_nil)))) pa_nil))))) pss_nil)
      (pss_one (ps_ret (pe_callTy call_tuple_of (by rfl) T.m_tuple (by decide +kernel) (pa_cons (pe_callB (call_sortD hu) (by rfl) T.m_sorted (by decide +kernel) (pa_cons (pv 4) pa_nil)) pa_nil))))))), ?_⟩
    obtain ⟨t, xs, rfl, hs, hax⟩ := dp_bars hu0
    have hlx : xs.length = ds.length := by rw [hax.len, List.length_map]
    have h3s : 3 ≤ sizeLine := by decide
    refine ⟨Nat.zero_le _, fun p hp => ?_⟩
    have npj := J.ne hp
    have e1 := Ex.new (o := .lst []) hp
    refine ⟨_, rfl, t, rfl, ⟨xs, ex_t (ex_cut.trans e1) hs⟩, for_tup (K := K) (a := t) (xs := xs) (fun i σ H2 => ∃ acc bs v5 v6 v7, σ = [some (.ref j), some (.ref t), some (.int top), some (.int 2), some (.ref p), v5, v6, v7] ∧ Jar H2 j ∧ But [j] H H2 ∧ H2 p = some (.lst acc) ∧ DpAll K (cut [p, j] H2) acc (bs.map barD) ∧ (∀ x ∈ bs, goodB x = true) ∧ bs.length ≤ i) ⟨[], [], none, none, none, rfl, J.ex e1, But.of e1, upd_same, .nil, (fun x h => by cases h), Nat.zero_le _⟩ (fun i σ H2 _ ⟨_, _, _, _, _, _, _, B2, _⟩ => ex_t (B2.cut.trans ex_cut) hs) ?_ ?_⟩
    · rintro i x σ H2 hi ⟨acc, bs, v5, v6, v7, rfl, J2, B2, h2p, ha, hg, hlen⟩
      have hal : acc.length = bs.length := by rw [ha.len, List.length_map]
      have hi' := (List.getElem?_eq_some_iff.mp hi).1
      obtain ⟨b, ub, hb, rfl, hst, hDb⟩ := dp_bar_get hax hi
      have hgb := of_decide_eq_true (hgd b (List.mem_of_getElem? hb))
      refine ⟨ub, _, rfl, ex_t (B2.cut.trans ex_cut) hst, rfl, _, _, rfl, _, _, rfl, _, _, rfl, rfl, ?_⟩
      refine ⟨_, rfl, _, _, rfl, rfl, ?_⟩
      refine ⟨_, rfl, Or.inl ⟨_, rfl, _, rfl, _, rfl, _, _, rfl, rfl, Or.inl ⟨by decide, by decide⟩, _, _, rfl, rfl, j, _, rfl, J2, by decide, by decide, fun z H3 hz J3 B3 => ⟨_, _, rfl, rfl, _, rfl, _, _, rfl, rfl, ?_⟩⟩⟩
      refine ⟨0, (b.2.1 + (z : Int) - 2), rfl, ?_⟩
      generalize hMe : (if (b.2.1 + (z : Int) - 2) > 0 then (b.2.1 + (z : Int) - 2) else 0) = M
      have hM : ((b.2.1 + (z : Int) - 2) > 0 ∧ M = (b.2.1 + (z : Int) - 2)) ∨ (¬ (b.2.1 + (z : Int) - 2) > 0 ∧ M = 0) := by
        rw [← hMe]
        by_cases z : (b.2.1 + (z : Int) - 2) > 0
        · exact Or.inl ⟨z, if_pos z⟩
        · exact Or.inr ⟨z, if_neg z⟩
      refine ⟨(top - 1), M, rfl, ?_⟩
      generalize hBe : (if M < (top - 1) then M else (top - 1)) = B
      have hB : (M < (top - 1) ∧ B = M) ∨ (¬ M < (top - 1) ∧ B = (top - 1)) := by
        rw [← hBe]
        by_cases z : M < (top - 1)
        · exact Or.inl ⟨z, if_pos z⟩
        · exact Or.inr ⟨z, if_neg z⟩
      refine ⟨_, rfl, _, rfl, rfl, _, rfl, iteD (fun c0 => ?_) (fun c0 => ?_)⟩
      · have c0' : b.2.2 = -1 := by injection c0
        refine ⟨_, rfl, _, rfl, _, rfl, rfl, _, rfl, iteD (fun c1 => ?_) (fun c1 => absurd rfl c1)⟩
        refine ⟨_, rfl, Or.inl ⟨rfl, _, Or.inl (Or.inl (B3 _ _ (by simpa using npj) h2p))⟩, _, rfl, _, rfl, _, rfl, h3s, fun tn htn => ?_⟩
        have eN := Ex.new (o := .tup [.int b.1, .int B, .int (-1)]) htn
        refine ⟨p, acc, _, rfl, rfl, eN _ _ (B3 _ _ (by simpa using npj) h2p), Evl.sz_lt (by omega), acc ++ [.ref tn], bs ++ [(b.1, B, (-1))], _, _, _, rfl, (J3.ex eN).put npj, ((((B2.trans B3).trans (But.of eN)).more (by simp)).trans (But.put (S := [p, j]) (by simp))).drop hp, upd_same, add_bar npj ha (B3.trans (But.of eN)) (eN _ _ (B3 _ _ (by simpa using npj) h2p)) (bar_new (by simpa using J3.ne htn) _ _ _), ?_, by rw [List.length_append]; exact Nat.succ_le_succ hlen⟩
        intro y hy
        rcases List.mem_append.mp hy with z | z
        · exact hg y z
        · rw [List.mem_singleton.mp z]
          exact good_of (by omega)
      · have c0' : ¬ b.2.2 = -1 := fun z => c0 (by rw [z])
        refine ⟨_, rfl, _, rfl, _, _, rfl, rfl, _, rfl, Or.inl ⟨_, rfl, _, rfl, _, rfl, _, _, rfl, rfl, Or.inl ⟨by decide, by decide⟩, _, _, rfl, rfl, j, _, rfl, J3, by decide, by decide, fun y H4 hy J4 B4 => ⟨_, _, rfl, rfl, _, rfl, _, _, rfl, rfl, ?_⟩⟩⟩
        refine ⟨(B + 1), (b.2.2 + (y : Int) - 2), rfl, ?_⟩
        generalize hNe : (if (b.2.2 + (y : Int) - 2) > (B + 1) then (b.2.2 + (y : Int) - 2) else (B + 1)) = N
        have hN : ((b.2.2 + (y : Int) - 2) > (B + 1) ∧ N = (b.2.2 + (y : Int) - 2)) ∨ (¬ (b.2.2 + (y : Int) - 2) > (B + 1) ∧ N = (B + 1)) := by
          rw [← hNe]
          by_cases z : (b.2.2 + (y : Int) - 2) > (B + 1)
          · exact Or.inl ⟨z, if_pos z⟩
          · exact Or.inr ⟨z, if_neg z⟩
        refine ⟨top, N, rfl, ?_⟩
        generalize hDve : (if N < top then N else top) = Dv
        have hD : (N < top ∧ Dv = N) ∨ (¬ N < top ∧ Dv = top) := by
          rw [← hDve]
          by_cases z : N < top
          · exact Or.inl ⟨z, if_pos z⟩
          · exact Or.inr ⟨z, if_neg z⟩
        have B4' := B3.trans B4
        refine ⟨_, rfl, _, rfl, rfl, _, rfl, iteD (fun c1 => ?_) (fun c1 => ?_)⟩
        · have c1' : Dv = -1 := by injection c1
          omega
        · refine ⟨_, rfl, j, 6, rfl, J4, by decide, by decide, fun c H5 hc J5 B5 => ⟨_, _, rfl, rfl, _, rfl, iteD (fun c2 => ?_) (fun c2 => ?_)⟩⟩
          · have B5' := B4'.trans B5
            refine ⟨_, rfl, Or.inl ⟨rfl, _, Or.inl (Or.inl (B5' _ _ (by simpa using npj) h2p))⟩, _, rfl, _, rfl, _, rfl, h3s, fun tn htn => ?_⟩
            have eN := Ex.new (o := .tup [.int b.1, .int B, .int Dv]) htn
            refine ⟨p, acc, _, rfl, rfl, eN _ _ (B5' _ _ (by simpa using npj) h2p), Evl.sz_lt (by omega), acc ++ [.ref tn], bs ++ [(b.1, B, Dv)], _, _, _, rfl, (J5.ex eN).put npj, ((((B2.trans B5').trans (But.of eN)).more (by simp)).trans (But.put (S := [p, j]) (by simp))).drop hp, upd_same, add_bar npj ha (B5'.trans (But.of eN)) (eN _ _ (B5' _ _ (by simpa using npj) h2p)) (bar_new (by simpa using J5.ne htn) _ _ _), ?_, by rw [List.length_append]; exact Nat.succ_le_succ hlen⟩
            intro y hy
            rcases List.mem_append.mp hy with z | z
            · exact hg y z
            · rw [List.mem_singleton.mp z]
              exact good_of (by omega)
          · have B5' := B4'.trans B5
            exact ⟨acc, bs, _, _, _, rfl, J5, B2.trans B5', B5' _ _ (by simpa using npj) h2p, ha.up (B5'.more (by simp)).cut, hg, Nat.le_succ_of_le hlen⟩
    · rintro σ H2 ⟨acc, bs, v5, v6, v7, rfl, J2, B2, h2p, ha, hg, hlen⟩
      have hal : acc.length = bs.length := by rw [ha.len, List.length_map]
      refine ⟨_, rfl, j, 2, rfl, J2, by decide, by decide, fun c H3 hc J3 B3 => ⟨rfl, _, rfl, iteD (fun c0 => ?_) (fun c0 => ?_)⟩⟩
      · refine ⟨_, rfl, _, rfl, _, _, rfl, rfl, j, top - 1, rfl, J3, by omega, by omega, fun bb H4 hbb J4 B4 => ?_⟩
        have B4' := B3.trans B4
        have h4p := B4' _ _ (by simpa using npj) h2p
        refine ⟨_, rfl, Or.inl ⟨rfl, _, Or.inl (Or.inl h4p)⟩, _, rfl, j, 2, rfl, J4, by decide, by decide, fun k H5 hk J5 B5 => ?_⟩
        have B5' := B4'.trans B5
        refine ⟨_, rfl, _, rfl, _, rfl, _, _, rfl, rfl, _, rfl, _, rfl, _, _, rfl, rfl, j, _, rfl, J5, by decide, by decide, fun y H6 hy J6 B6 => ⟨_, _, rfl, rfl, ?_⟩⟩
        refine ⟨top, (bb : Int) + 1 + y, rfl, ?_⟩
        generalize hDe : (if (bb : Int) + 1 + y < top then (bb : Int) + 1 + y else top) = Dv
        have hD : ((bb : Int) + 1 + y < top ∧ Dv = (bb : Int) + 1 + y) ∨ (¬ (bb : Int) + 1 + y < top ∧ Dv = top) := by
          rw [← hDe]
          by_cases z : (bb : Int) + 1 + y < top
          · exact Or.inl ⟨z, if_pos z⟩
          · exact Or.inr ⟨z, if_neg z⟩
        have B6' := B5'.trans B6
        have h6p := B6' _ _ (by simpa using npj) h2p
        refine ⟨h3s, fun tn htn => ?_⟩
        have eN := Ex.new (o := .tup [.int (k : Int), .int (bb : Int), .int Dv]) htn
        refine ⟨p, acc, _, rfl, rfl, eN _ _ h6p, Evl.sz_lt (by omega), ?_⟩
        have J9 := (J6.ex eN).put (o := .lst (acc ++ [.ref tn])) npj
        have B9 : But [j] H (upd (upd H6 tn (.tup [.int (k : Int), .int (bb : Int), .int Dv])) p (.lst (acc ++ [.ref tn]))) := ((((B2.trans B6').trans (But.of eN)).more (by simp)).trans (But.put (S := [p, j]) (by simp))).drop hp
        have ha9 := add_bar npj ha (B6'.trans (But.of eN)) (eN _ _ h6p) (bar_new (by simpa using J6.ne htn) _ _ _)
        have h9p : upd (upd H6 tn (.tup [.int (k : Int), .int (bb : Int), .int Dv])) p (.lst (acc ++ [.ref tn])) p = some (.lst (acc ++ [.ref tn])) := upd_same
        have hg9 : ∀ x ∈ bs ++ [((k : Int), (bb : Int), Dv)], goodB x = true := by
          intro y hy
          rcases List.mem_append.mp hy with z | z
          · exact hg y z
          · rw [List.mem_singleton.mp z]
            exact good_of (by omega)
        have hlen : (bs ++ [((k : Int), (bb : Int), Dv)]).length ≤ 13 := by rw [List.length_append]; exact Nat.succ_le_succ (by omega)
        refine ⟨_, rfl, p, (acc ++ [V.ref tn]), _, rfl, Or.inl (Or.inl h9p), ha9.up ex_cut, bars_alike (bs ++ [((k : Int), (bb : Int), Dv)]), bars_sortable (bs ++ [((k : Int), (bb : Int), Dv)]), bars_deep (bs ++ [((k : Int), (bb : Int), Dv)]), fun r hr2 => ?_⟩
        obtain ⟨bs', hs', hp', ho'⟩ := sort_bars ha9
        refine ⟨r, _, rfl, Or.inl ⟨Or.inl (Or.inl upd_same), fun l hl2 => ?_⟩⟩
        have e3 := Ex.new (o := .lst (byK (acc ++ [V.ref tn]) ((bs ++ [((k : Int), (bb : Int), Dv)]).map barD))) hr2
        have e4 := Ex.new (o := .tup (byK (acc ++ [V.ref tn]) ((bs ++ [((k : Int), (bb : Int), Dv)]).map barD))) hl2
        refine q (.ref l) bs' _ ⟨fun x hx => hg9 x (hp'.mem_iff.mp hx), ho', by rw [hp'.length_eq]; omega⟩ (by rw [hp'.length_eq]; omega) (J9.ex (e3.trans e4)) (B9.trans (But.of (e3.trans e4))) (.tup (Or.inl (Or.inl ?_)) (hs'.up ?_))
        · rw [cut_out (by simpa using (J9.ex e3).ne hl2), upd_same]
        · exact fun a o h => But.cut (But.of (e3.trans e4)) a o (by
            obtain ⟨h1, h2⟩ := cut_some h
            rw [cut_out (fun z => h1 (List.mem_cons_of_mem _ z))]
            exact h2)
      · have J9 := J3
        have B9 := B2.trans B3
        have h9p := B3 _ _ (by simpa using npj) h2p
        have ha9 := ha.up (B3.more (T := [p, j]) (by simp)).cut
        have hg9 := hg
        refine ⟨_, rfl, p, acc, _, rfl, Or.inl (Or.inl h9p), ha9.up ex_cut, bars_alike bs, bars_sortable bs, bars_deep bs, fun r hr2 => ?_⟩
        obtain ⟨bs', hs', hp', ho'⟩ := sort_bars ha9
        refine ⟨r, _, rfl, Or.inl ⟨Or.inl (Or.inl upd_same), fun l hl2 => ?_⟩⟩
        have e3 := Ex.new (o := .lst (byK acc (bs.map barD))) hr2
        have e4 := Ex.new (o := .tup (byK acc (bs.map barD))) hl2
        refine q (.ref l) bs' _ ⟨fun x hx => hg9 x (hp'.mem_iff.mp hx), ho', by rw [hp'.length_eq]; omega⟩ (by rw [hp'.length_eq]; omega) (J9.ex (e3.trans e4)) (B9.trans (But.of (e3.trans e4))) (.tup (Or.inl (Or.inl ?_)) (hs'.up ?_))
        · rw [cut_out (by simpa using (J9.ex e3).ne hl2), upd_same]
        · exact fun a o h => But.cut (But.of (e3.trans e4)) a o (by
            obtain ⟨h1, h2⟩ := cut_some h
            rw [cut_out (fun z => h1 (List.mem_cons_of_mem _ z))]
            exact h2)
end
end K22
end
section
set_option pp.maxSteps 400
set_option Elab.async false
set_option linter.all false
set_option maxRecDepth 100000
set_option maxHeartbeats 4000000
namespace K22
open PySem PySem.Spec PyProof.Rows L2 LB Evl
def spRows (K : PySem.W.Frag) : Sp := fun vs H Q _ => ∃ (j : Addr), vs = [.ref j] ∧ Jar H j ∧
  ∀ (t : Addr) (v1 v2 : V) (b1 b2 : List Bar) (top : Int) (H' : Hp), BarsOk b1 → BarsOk b2 → b1.length ≤ 12 → b2.length ≤ 13 → 8 ≤ top → top ≤ 4000000 → Jar H' j → But [j] H H' → H' t = some (.tup [v1, v2, .int top]) → t ≠ j →
    Dp K (cut [j] H') v1 (barsD b1) → Dp K (cut [j] H') v2 (barsD b2) → Q (.ref t) H'
theorem one_int {l : List Int} {i : Nat} {v : V} (h : (l.map V.int)[i]? = some v) : ∃ x ∈ l, v = .int x := by
  rw [List.getElem?_map] at h
  obtain ⟨x, hx, rfl⟩ := Option.map_eq_some_iff.mp h
  exact ⟨x, List.mem_of_getElem? hx, rfl⟩
theorem one_lst {K : PySem.W.Frag} {H : Hp} {j p : Addr} {xs : List V} (J : Jar H j) (hp : H p = none) : SqA K (cut [j] (upd H p (.lst xs))) p xs :=
  Or.inl (Or.inl (Or.inl (by rw [cut_out (by simpa using J.ne hp), upd_same])))
section
variable {P : Program} {w : World} {K : PySem.W.Frag} {mg : Str → Option Value} {base : Heap}
theorem ok_law_bl_rows (D : Dn K mg "_law_bl_rows" s_law_bl_rows ["jar"]) (f_law_one : Cal P w K mg base 2 "_law_one" (spOne K)) (f_law_take : Cal P w K mg base 1 "_law_take" spTake) (f_law_mt_bars_drawn : Cal P w K mg base 3 "_law_mt_bars_drawn" (spBarsDrawn K)) (f_law_mt_moved : Cal P w K mg base 2 "_law_mt_moved" (spMoved K)) : Cal P w K mg base 4 "_law_bl_rows" (spRows K) := by
  refine cal_of D sc_law_bl_rows (fun vs H Q E h => ?_) (fun f cdv A outer s H vs Q E hr h => ?_)
  · obtain ⟨j, rfl, _⟩ := h
    rfl
  · obtain ⟨j, rfl, J, q⟩ := h
    refine ⟨_, (pss_cons (ps_set (i := 1) sc_law_bl_rows.nd rfl (Or.inl rfl) (LB.pe_c f_law_one hr (by decide) (by rfl) (pa_cons (pv 0) (pa_cons (pe_lst (pa_cons pe_int (pa_cons pe_int (pa_cons pe_int (pa_cons pe_int pa_nil))))) pa_nil))))
      (pss_cons (ps_set (i := 2) sc_law_bl_rows.nd rfl (Or.inl rfl) (LB.pe_c f_law_mt_bars_drawn hr (by decide) (by rfl) (pa_cons (pv 0) (pa_cons (LB.pe_c f_law_one hr (by decide) (by rfl) (pa_cons (pv 0) (pa_cons (pe_lst (pa_cons pe_int (pa_cons pe_int (pa_cons pe_int pa_nil)))) pa_nil))) (pa_cons (pv 1) (pa_cons (LB.pe_c f_law_one hr (by decide) (by rfl) (pa_cons (pv 0) (pa_cons (pe_lst (pa_cons pe_int (pa_cons pe_int (pa_cons pe_int pa_nil)))) pa_nil))) pa_nil))))))
      (pss_cons (ps_set (i := 3) sc_law_bl_rows.nd rfl (Or.inl rfl) (pe_ifExp (pt_cmpR op_eq (LB.pe_c f_law_take hr (by decide) (by rfl) (pa_cons (pv 0) (pa_cons pe_int pa_nil))) pe_int (nomark _)) (LB.pe_c f_law_mt_moved hr (by decide) (by rfl) (pa_cons (pv 0) (pa_cons (pv 2) (pa_cons (pv 1) (pa_cons pe_int pa_nil))))) (LB.pe_c f_law_mt_bars_drawn hr (by decide) (by rfl) (pa_cons (pv 0) (pa_cons pe_int (pa_cons (pv 1) (pa_cons pe_int pa_nil)))))))
      (pss_one (ps_ret (pe_tup (pa_cons (pv 2) (pa_cons (pv 3) (pa_cons (pv 1) pa_nil))))))))), ?_⟩
    have h3 : 3 ≤ sizeLine := by decide
    have h4 : 4 ≤ sizeLine := by decide
    refine ⟨_, rfl, h4, fun L1 hL1 => ?_⟩
    have e1 := Ex.new (o := .lst [V.int 8, .int 8, .int 30, .int 4000000]) hL1
    refine ⟨j, L1, _, rfl, J.ex e1, one_lst J hL1, by decide, by decide, fun i v H1 hv J1 B1 => ?_⟩
    obtain ⟨top, htop, rfl⟩ := one_int (l := [8, 8, 30, 4000000]) hv
    have t8 : 8 ≤ top ∧ top ≤ 4000000 := by
      simp only [List.mem_cons, List.not_mem_nil, or_false] at htop
      omega
    clear htop hv
    have B1' : But [j] H H1 := (But.of e1).trans B1
    refine ⟨_, rfl, _, rfl, h3, fun L2 hL2 => ?_⟩
    have e2 := Ex.new (o := .lst [V.int 3, .int 6, .int 12]) hL2
    refine ⟨j, L2, _, rfl, J1.ex e2, one_lst J1 hL2, by decide, by decide, fun i v H2 hv J2 B2 => ?_⟩
    obtain ⟨many, hm, rfl⟩ := one_int (l := [3, 6, 12]) hv
    have m8 : 0 ≤ many ∧ many ≤ 12 := by
      simp only [List.mem_cons, List.not_mem_nil, or_false] at hm
      omega
    clear hm hv
    have B2' : But [j] H H2 := (B1'.trans (But.of e2)).trans B2
    refine ⟨_, rfl, _, rfl, h3, fun L3 hL3 => ?_⟩
    have e3 := Ex.new (o := .lst [V.int 1, .int 2, .int 6]) hL3
    refine ⟨j, L3, _, rfl, J2.ex e3, one_lst J2 hL3, by decide, by decide, fun i v H3 hv J3 B3 => ?_⟩
    obtain ⟨dims, hd, rfl⟩ := one_int (l := [1, 2, 6]) hv
    have d8 : 1 ≤ dims ∧ dims ≤ 6 := by
      simp only [List.mem_cons, List.not_mem_nil, or_false] at hd
      omega
    clear hd hv
    have B3' : But [j] H H3 := (B2'.trans (But.of e3)).trans B3
    refine ⟨j, many, top, dims, rfl, J3, m8.1, m8.2, by omega, t8.2, d8.1, d8.2, fun v1 b1 H4 ok1 l1 J4 B4 hv1 => ?_⟩
    have B4' := B3'.trans B4
    refine ⟨_, rfl, j, 2, rfl, J4, by decide, by decide, fun c H5 hc J5 B5 => ⟨rfl, _, rfl, iteD (fun c0 => ?_) (fun c0 => ?_)⟩⟩
    · have hv5 := hv1.up B5.cut
      refine ⟨_, rfl, _, rfl, _, rfl, j, v1, b1, top, rfl, J5, hv5, ok1.good, l1, by omega, t8.2, fun v2 b2 H6 ok2 l2 J6 B6 hv2 => ?_⟩
      refine ⟨_, rfl, _, rfl, _, rfl, h3, fun t ht => ?_⟩
      have e7 := Ex.new (o := .tup [v1, v2, .int top]) ht
      exact q t v1 v2 b1 b2 top _ ok1 ok2 l1 l2 t8.1 t8.2 (J6.ex e7) (((B4'.trans B5).trans B6).trans (But.of e7)) upd_same (J6.ne ht) ((hv5.up B6.cut).up (But.of e7).cut) (hv2.up (But.of e7).cut)
    · have hv5 := hv1.up B5.cut
      refine ⟨_, rfl, _, rfl, j, 6, top, 2, rfl, J5, by decide, by decide, by omega, t8.2, by decide, by decide, fun v2 b2 H6 ok2 l2 J6 B6 hv2 => ?_⟩
      refine ⟨_, rfl, _, rfl, _, rfl, h3, fun t ht => ?_⟩
      have e7 := Ex.new (o := .tup [v1, v2, .int top]) ht
      exact q t v1 v2 b1 b2 top _ ok1 ok2 l1 (by omega) t8.1 t8.2 (J6.ex e7) (((B4'.trans B5).trans B6).trans (But.of e7)) upd_same (J6.ne ht) ((hv5.up B6.cut).up (But.of e7).cut) (hv2.up (But.of e7).cut)
end
end K22
end
section
set_option pp.maxSteps 400
set_option Elab.async false
set_option linter.all false
set_option maxRecDepth 100000
set_option maxHeartbeats 4000000
namespace K22
open PySem PySem.Spec PyProof.Rows L2 LB Evl
/-- data of so many floors, without lists, with numbers that are not great -/
def smalls : Nat → PyData → Bool
  | 0, _ => false
  | _ + 1, .int i => decide (i.natAbs < 2 ^ 64)
  | n + 1, .tuple ds => decide (ds.length ≤ 1000) && ds.all (smalls n)
  | _ + 1, .list _ => false
  | _ + 1, .dict _ => false
  | _ + 1, _ => true
theorem fits_small : ∀ n d, smalls n d = true → fits n d = true
  | 0, d, h => by cases h
  | n + 1, .tuple ds, h => by
    have h' : (decide (ds.length ≤ 1000) && ds.all (smalls n)) = true := h
    rw [Bool.and_eq_true, decide_eq_true_eq, List.all_eq_true] at h'
    show (decide (ds.length ≤ 100000) && ds.all (fits n)) = true
    rw [Bool.and_eq_true, decide_eq_true_eq, List.all_eq_true]
    exact ⟨by omega, fun x hx => fits_small n x (h'.2 x hx)⟩
  | n + 1, .list _, h => by cases h
  | n + 1, .dict _, h => by cases h
  | n + 1, .none, h => rfl
  | n + 1, .bool _, h => rfl
  | n + 1, .int _, h => rfl
  | n + 1, .str _, h => rfl
theorem fits_up : ∀ n d, fits n d = true → fits (n + 1) d = true
  | 0, d, h => by cases h
  | n + 1, .tuple ds, h => by
    have h' : (decide (ds.length ≤ 100000) && ds.all (fits n)) = true := h
    rw [Bool.and_eq_true, decide_eq_true_eq, List.all_eq_true] at h'
    show (decide (ds.length ≤ 100000) && ds.all (fits (n + 1))) = true
    rw [Bool.and_eq_true, decide_eq_true_eq, List.all_eq_true]
    exact ⟨by omega, fun x hx => fits_up n x (h'.2 x hx)⟩
  | n + 1, .list ds, h => by
    have h' : (decide (ds.length ≤ 100000) && ds.all (fits n)) = true := h
    rw [Bool.and_eq_true, decide_eq_true_eq, List.all_eq_true] at h'
    show (decide (ds.length ≤ 100000) && ds.all (fits (n + 1))) = true
    rw [Bool.and_eq_true, decide_eq_true_eq, List.all_eq_true]
    exact ⟨by omega, fun x hx => fits_up n x (h'.2 x hx)⟩
  | n + 1, .dict _, h => by cases h
  | n + 1, .none, h => rfl
  | n + 1, .bool _, h => rfl
  | n + 1, .int _, h => rfl
  | n + 1, .str _, h => rfl
theorem fits_tup {n : Nat} {ds : List PyData} (h1 : ds.length ≤ 100000) (h2 : ∀ d ∈ ds, fits n d = true) : fits (n + 1) (.tuple ds) = true := by
  show (decide (ds.length ≤ 100000) && ds.all (fits n)) = true
  rw [Bool.and_eq_true, decide_eq_true_eq, List.all_eq_true]
  exact ⟨h1, h2⟩
theorem dp_sub {K : PySem.W.Frag} {H : Hp} {xs : List V} {ds : List PyData} (ha : DpAll K H xs ds) : ∀ ys : List V, (∀ y ∈ ys, y ∈ xs) → ∃ es, DpAll K H ys es ∧ ∀ e ∈ es, e ∈ ds
  | [], _ => ⟨[], .nil, fun e h => by cases h⟩
  | y :: ys, h => by
    obtain ⟨es, h1, h2⟩ := dp_sub ha ys fun z hz => h z (List.mem_cons_of_mem _ hz)
    obtain ⟨i, hi⟩ := List.mem_iff_getElem?.mp (h y List.mem_cons_self)
    obtain ⟨d, hd, hD⟩ := ha.get hi
    refine ⟨d :: es, .cons hD h1, fun e he => ?_⟩
    rcases List.mem_cons.mp he with z | z
    · rw [z]
      exact List.mem_of_getElem? hd
    · exact h2 e z
theorem cut_new {K : PySem.W.Frag} {H : Hp} {j p : Addr} {xs : List V} (J : Jar H j) (hp : H p = none) : SqT K (cut [j] (upd H p (.tup xs))) p xs :=
  Or.inl (Or.inl (by rw [cut_out (by simpa using J.ne hp), upd_same]))
theorem sl_to {K : PySem.W.Frag} {H : Hp} {j a : Addr} {xs : List V} {lo hi : Option Int} {Q : VK} (J : Jar H j) (hs : SqT K (cut [j] H) a xs)
    (q : ∀ p ys H', Ex H H' → SqT K (cut [j] H') p ys → (∀ y ∈ ys, y ∈ xs) → ys.length ≤ xs.length → Q (.ref p) H') : rSlA K (.ref a) lo hi H Q := by
  refine ⟨a, xs, rfl, ex_t ex_cut hs, fun _ => q a xs H (Ex.refl H) hs (fun y h => h) (Nat.le_refl _), fun _ p hp => q p _ _ (Ex.new hp) (cut_new J hp) (fun y h => ?_) (cutV_length xs lo hi)⟩
  exact List.mem_of_mem_drop (List.mem_of_mem_take h)
theorem cat_to {K : PySem.W.Frag} {H : Hp} {j a b : Addr} {xs ys : List V} {Q : VK} (J : Jar H j) (hs : SqT K (cut [j] H) a xs) (ht : SqT K (cut [j] H) b ys) (hl : xs.length + ys.length ≤ 100000)
    (q : ∀ p H', Ex H H' → SqT K (cut [j] H') p (xs ++ ys) → Q (.ref p) H') : rCatA K (.ref a) (.ref b) H Q := by
  refine ⟨a, b, xs, ys, rfl, rfl, ex_t ex_cut hs, ex_t ex_cut ht, sz_of hl, fun e => ?_, fun _ e => ?_, fun _ _ p hp => q p _ (Ex.new hp) (cut_new J hp)⟩
  · subst e
    exact q b H (Ex.refl H) ht
  · subst e
    exact q a H (Ex.refl H) (by rw [List.append_nil]; exact hs)
def spBent (K : PySem.W.Frag) (n : Nat) : Sp := fun vs H Q _ => ∃ (j : Addr) (v : V) (d : PyData), vs = [.ref j, v] ∧ Jar H j ∧ Dp K (cut [j] H) v d ∧ smalls n d = true ∧
  ∀ (v' : V) (d' : PyData) (H' : Hp), fits (n + 1) d' = true → Jar H' j → But [j] H H' → Dp K (cut [j] H') v' d' → Q v' H'
section
variable {P : Program} {w : World} {K : PySem.W.Frag} {mg : Str → Option Value} {base : Heap}
theorem ok_bent_succ {n : Nat} (D : Dn K mg "_law_bent" s_law_bent ["jar", "thing"]) (T : Bt mg) (f_law_take : Cal P w K mg base 1 "_law_take" spTake) (f_law_one : Cal P w K mg base 2 "_law_one" (spOne K)) (f_law_bent : Cal P w K mg base (n + 3) "_law_bent" (spBent K n)) :
    Cal P w K mg base (n + 4) "_law_bent" (spBent K (n + 1)) := by
  refine cal_of D sc_law_bent (fun vs H Q E h => ?_) (fun f cdv A outer s H vs Q E hr h => ?_)
  · obtain ⟨j, v, d, rfl, _⟩ := h
    rfl
  · obtain ⟨j, v, d, rfl, J, hd, hsm, q⟩ := h
    have hu : (A.deeper (envOfC "_law_bent" (defScope s_law_bent) s.heap.objs.size f cdv)).units + 16 < cLine := by
      have := hr.un
      omega
    refine ⟨_, (pss_cons (ps_if (pt_not (pt_val (pe_callB call_isi (by rfl) T.m_isinstance (by decide +kernel) (pa_cons (pv 1) (pa_cons (pe_bltn (v := .ty "tuple") (u := .type "tuple") (by rfl) T.m_tuple (by decide +kernel) rfl) pa_nil))))) (pss_cons (ps_if (PW.pt (pw_and (pt_val (pe_callB call_isi (by rfl) T.m_isinstance (by decide +kernel) (pa_cons (pv 1) (pa_cons (pe_bltn (v := .ty "int") (u := .type "int") (by rfl) T.m_int (by decide +kernel) rfl) pa_nil)))) (pw_and1 (pt_not (pt_val (pe_callB call_isi (by rfl) T.m_isinstance (by decide +kernel) (pa_cons (pv 1) (pa_cons (pe_bltn (v := .ty "bool") (u := .type "bool") (by rfl) T.m_bool (by decide +kernel) rfl) pa_nil)))))))) (pss_one (ps_ret (LB.pe_c f_law_one hr (by omega) (by rfl) (pa_cons (pv 0) (pa_cons (pe_lst (pa_cons (pe_op op_add (pv 1) pe_int) (pa_cons (pe_op op_sub (pv 1) pe_int) (pa_cons (pe_op op_add (pv 1) pe_int) (pa_cons (pe_un un_neg (pv 1)) (pa_cons pe_bl (pa_cons pe_non (pa_cons (pe_callTy call_str_int (by rfl) T.m_str (by decide +kernel) (pa_cons (pv 1) pa_nil)) (pa_cons (pe_tup (pa_cons (pv 1) pa_nil)) pa_nil))))))))) pa_nil))))) pss_nil)
      (pss_one (ps_ret (LB.pe_c f_law_one hr (by omega) (by rfl) (pa_cons (pv 0) (pa_cons (pe_lst (pa_cons pe_non (pa_cons pe_int (pa_cons pe_str (pa_cons (pe_tup pa_nil) (pa_cons pe_bl (pa_cons (pv 1) pa_nil))))))) pa_nil)))))) pss_nil)
      (pss_cons (ps_set (i := 2) sc_law_bent.nd rfl (Or.inl rfl) (LB.pe_c f_law_take hr (by omega) (by rfl) (pa_cons (pv 0) (pa_cons pe_int pa_nil))))
      (pss_cons (ps_if (PW.pt (pw_or (pt_cmpR (op_eqP hu) (pv 1) (pe_tup pa_nil) (nomark _)) (pw_or1 (pt_cmpR op_eq (pv 2) pe_int (nomark _))))) (pss_one (ps_ret (LB.pe_c f_law_one hr (by omega) (by rfl) (pa_cons (pv 0) (pa_cons (pe_lst (pa_cons pe_non (pa_cons pe_int (pa_cons pe_str (pa_cons pe_bl (pa_cons (pe_tup (pa_cons pe_non pa_nil)) (pa_cons (pe_tup (pa_cons (pe_tup pa_nil) pa_nil)) (pa_cons (pe_tup (pa_cons pe_int pa_nil)) pa_nil)))))))) pa_nil))))) pss_nil)
      (pss_cons (ps_par (i := 3) (j := 4) (by rfl) sc_law_bent.nd rfl rfl (by decide) rfl rfl (pa_cons (LB.pe_c f_law_take hr (by omega) (by rfl) (pa_cons (pv 0) (pa_cons (pe_callB call_len_seq (by rfl) T.m_len PySem.boot_len (pa_cons (pv 1) pa_nil)) pa_nil))) (pa_cons (LB.pe_c f_law_one hr (by omega) (by rfl) (pa_cons (pv 0) (pa_cons (pv 1) pa_nil))) pa_nil)) (by rfl))
      (pss_cons (ps_if (pt_cmpR op_eq (pv 2) pe_int (nomark _)) (pss_one (ps_ret (pe_op op_catA (pe_slice sl_tupA (pv 1) po_none (po_some (pv 3))) (pe_slice sl_tupA (pv 1) (po_some (pe_op op_add (pv 3) pe_int)) po_none)))) pss_nil)
      (pss_cons (ps_if (pt_cmpR op_lt (pv 2) pe_int (nomark _)) (pss_one (ps_ret (pe_op op_catA (pe_op op_catA (pe_slice sl_tupA (pv 1) po_none (po_some (pv 3))) (pe_tup (pa_cons (pv 4) pa_nil))) (pe_slice sl_tupA (pv 1) (po_some (pe_op op_sub (pe_op op_add (pv 3) (pv 2)) pe_int)) po_none)))) pss_nil)
      (pss_cons (ps_if (pt_cmpR op_eq (pv 2) pe_int (nomark _)) (pss_one (ps_ret (LB.pe_revT (pv 1)))) pss_nil)
      (pss_one (ps_ret (pe_op op_catA (pe_op op_catA (pe_slice sl_tupA (pv 1) po_none (po_some (pv 3))) (pe_tup (pa_cons (LB.pe_c f_law_bent hr (by omega) (by rfl) (pa_cons (pv 0) (pa_cons (pe_ix ix_tup (pv 1) (pv 3) (fun _ _ => rfl)) pa_nil))) pa_nil))) (pe_slice sl_tupA (pv 1) (po_some (pe_op op_add (pv 3) pe_int)) po_none))))))))))), ?_⟩
    have hdH := hd.up (ex_cut (H := H))
    -- one of some data
    have pick : ∀ (H0 H1 : Hp) (L : Addr) (xs : List V) (ds : List PyData), But [j] H H0 → Ex H0 H1 → Jar H0 j → H1 L = some (.lst xs) → DpAll K (cut [j] H1) xs ds → (∀ e ∈ ds, fits (n + 2) e = true) → 1 ≤ xs.length → xs.length ≤ 20 → L ≠ j → spOne K [.ref j, .ref L] H1 Q E := by
      intro H0 H1 L xs ds B0 e1 J0 hL ha hf h1 h20 nL
      refine ⟨j, L, xs, rfl, J0.ex e1, Or.inl (Or.inl (Or.inl (by rw [cut_out (by simpa using nL)]; exact hL))), h1, by omega, fun i v' H' hv J' B' => ?_⟩
      obtain ⟨d', hd', hv'⟩ := ha.get hv
      exact q v' d' H' (hf d' (List.mem_of_getElem? hd')) J' ((B0.trans (But.of e1)).trans B') (hv'.up B'.cut)
    refine ⟨_, rfl, v, .ty "tuple", _, _, _, rfl, .ty "tuple", dp_ty hdH, kit_tup hdH, _, rfl, ?_⟩
    cases hd with
    | int i =>
      have hi : i.natAbs < 2 ^ 64 := of_decide_eq_true hsm
      have h1s : 1 ≤ sizeLine := by decide
      refine iteT ⟨_, rfl, _, .ty "int", _, _, _, rfl, .ty "int", dp_ty (Dp.int i), kit_int (Dp.int (H := H) (K := K) i), _, rfl, iteT ⟨_, rfl, _, .ty "bool", _, _, _, rfl, .ty "bool", dp_ty (Dp.int i), kit_bool (Dp.int (H := H) (K := K) i), _, rfl, iteT ?_⟩⟩
      refine ⟨_, rfl, _, rfl, _, _, rfl, rfl, _, rfl, _, _, rfl, rfl, _, rfl, _, _, rfl, rfl, _, rfl, _, rfl, ?_⟩
      have hlog : i.natAbs.log2 < 1920 := by
        by_cases z : i.natAbs = 0
        · rw [z]; decide
        · have := (Nat.log2_lt z (k := 64)).mpr hi
          omega
      refine ⟨_, rfl, _, rfl, hlog, _, rfl, h1s, fun t ht => ⟨(by show 8 ≤ sizeLine; decide), fun L hL => ?_⟩⟩
      have e1 := Ex.new (o := .tup [V.int i]) ht
      have J1 := J.ex e1
      have e2 := Ex.new (o := .lst [V.int (i + 1), .int (i - 1), .int (i + 7), .int (-i), .bl true, .non, .str (toString i), .ref t]) hL
      refine pick H _ L _ [.int (i + 1), .int (i - 1), .int (i + 7), .int (-i), .bool true, .none, .str (toString i), .tuple [.int i]] But.refl (e1.trans e2) J upd_same ?_ ?_ (by show 1 ≤ 8; decide) (by show 8 ≤ 20; decide) (J1.ne hL)
      · exact .cons (.int _) (.cons (.int _) (.cons (.int _) (.cons (.int _) (.cons (.bl _) (.cons .non (.cons (.str _) (.cons (.tup (ex_t (But.cut (But.of e2)) (cut_new J ht)) (.cons (.int _) .nil)) .nil)))))))
      · intro e he
        simp only [List.mem_cons, List.not_mem_nil, or_false] at he
        rcases he with rfl | rfl | rfl | rfl | rfl | rfl | rfl | rfl <;> rfl
    | bl b =>
      refine iteT ⟨_, rfl, _, .ty "int", _, _, _, rfl, .ty "int", dp_ty (Dp.bl b), kit_int (Dp.bl (H := H) (K := K) b), _, rfl, iteT ⟨_, rfl, _, .ty "bool", _, _, _, rfl, .ty "bool", dp_ty (Dp.bl b), kit_bool (Dp.bl (H := H) (K := K) b), _, rfl, iteF ?_⟩⟩
      refine ⟨_, rfl, Nat.zero_le _, fun t ht => ⟨_, rfl, (by show 6 ≤ sizeLine; decide), fun L hL => ?_⟩⟩
      have e1 := Ex.new (o := .tup []) ht
      have J1 := J.ex e1
      have e2 := Ex.new (o := .lst [V.non, .int 0, .str "", .ref t, .bl true, .bl b]) hL
      refine pick H _ L _ [.none, .int 0, .str "", .tuple [], .bool true, .bool b] But.refl (e1.trans e2) J upd_same ?_ ?_ (by show 1 ≤ 6; decide) (by show 6 ≤ 20; decide) (J1.ne hL)
      · exact .cons .non (.cons (.int _) (.cons (.str _) (.cons (.tup (ex_t (But.cut (But.of e2)) (cut_new J ht)) .nil) (.cons (.bl _) (.cons (.bl b) .nil)))))
      · intro e he
        simp only [List.mem_cons, List.not_mem_nil, or_false] at he
        rcases he with rfl | rfl | rfl | rfl | rfl | rfl <;> rfl
    | non =>
      refine iteT ⟨_, rfl, _, .ty "int", _, _, _, rfl, .ty "int", dp_ty Dp.non, kit_int (Dp.non (H := H) (K := K)), _, rfl, iteF ?_⟩
      refine ⟨_, rfl, Nat.zero_le _, fun t ht => ⟨_, rfl, (by show 6 ≤ sizeLine; decide), fun L hL => ?_⟩⟩
      have e1 := Ex.new (o := .tup []) ht
      have J1 := J.ex e1
      have e2 := Ex.new (o := .lst [V.non, .int 0, .str "", .ref t, .bl true, .non]) hL
      refine pick H _ L _ [.none, .int 0, .str "", .tuple [], .bool true, .none] But.refl (e1.trans e2) J upd_same ?_ ?_ (by show 1 ≤ 6; decide) (by show 6 ≤ 20; decide) (J1.ne hL)
      · exact .cons .non (.cons (.int _) (.cons (.str _) (.cons (.tup (ex_t (But.cut (But.of e2)) (cut_new J ht)) .nil) (.cons (.bl _) (.cons (.non) .nil)))))
      · intro e he
        simp only [List.mem_cons, List.not_mem_nil, or_false] at he
        rcases he with rfl | rfl | rfl | rfl | rfl | rfl <;> rfl
    | str x =>
      refine iteT ⟨_, rfl, _, .ty "int", _, _, _, rfl, .ty "int", dp_ty (Dp.str x), kit_int (Dp.str (H := H) (K := K) x), _, rfl, iteF ?_⟩
      refine ⟨_, rfl, Nat.zero_le _, fun t ht => ⟨_, rfl, (by show 6 ≤ sizeLine; decide), fun L hL => ?_⟩⟩
      have e1 := Ex.new (o := .tup []) ht
      have J1 := J.ex e1
      have e2 := Ex.new (o := .lst [V.non, .int 0, .str "", .ref t, .bl true, .str x]) hL
      refine pick H _ L _ [.none, .int 0, .str "", .tuple [], .bool true, .str x] But.refl (e1.trans e2) J upd_same ?_ ?_ (by show 1 ≤ 6; decide) (by show 6 ≤ 20; decide) (J1.ne hL)
      · exact .cons .non (.cons (.int _) (.cons (.str _) (.cons (.tup (ex_t (But.cut (But.of e2)) (cut_new J ht)) .nil) (.cons (.bl _) (.cons (.str x) .nil)))))
      · intro e he
        simp only [List.mem_cons, List.not_mem_nil, or_false] at he
        rcases he with rfl | rfl | rfl | rfl | rfl | rfl <;> rfl
    | lst _ _ => cases hsm
    | @tup a xs ds hs ha =>
      have hsm' : (decide (ds.length ≤ 1000) && ds.all (smalls n)) = true := hsm
      rw [Bool.and_eq_true, decide_eq_true_eq, List.all_eq_true] at hsm'
      obtain ⟨hl1000, hall⟩ := hsm'
      have hl : xs.length = ds.length := ha.len
      have h1s : 1 ≤ sizeLine := by decide
      refine iteF ⟨_, rfl, j, 12, rfl, J, by decide, by decide, fun way H1 hw J1 B1 => ?_⟩
      have ha1 := ha.up B1.cut
      have hs1 := ex_t B1.cut hs
      refine ⟨_, rfl, Nat.zero_le _, fun t0 ht0 => ?_⟩
      have e0 := Ex.new (o := .tup []) ht0
      have J2 := J1.ex e0
      have hs2 := ex_t (But.cut (S := [j]) (But.of e0)) hs1
      have ha2 := ha1.up (But.cut (S := [j]) (But.of e0))
      refine ⟨.tuple ds, .tuple [], .tup (ex_t ex_cut hs2) (ha2.up ex_cut), .tup (Or.inl (Or.inl upd_same)) .nil, min_tnil _, _, rfl, ?_⟩
      rw [eqv_tnil]
      have B2 : But [j] H (upd H1 t0 (.tup [])) := B1.trans (But.of e0)
      generalize upd H1 t0 (.tup []) = H2 at J2 hs2 ha2 B2 ⊢
      cases hE : ds.isEmpty with
      | true =>
        refine iteT ?_
        refine ⟨_, rfl, h1s, fun ta hta => ⟨Nat.zero_le _, fun tb htb => ⟨h1s, fun tc htc => ⟨h1s, fun td htd => ⟨(by show 7 ≤ sizeLine; decide), fun L hL => ?_⟩⟩⟩⟩⟩
        have ea := Ex.new (o := .tup [V.non]) hta
        have Ja := J2.ex ea
        have eb := Ex.new (o := .tup []) htb
        have Jb := Ja.ex eb
        have ec := Ex.new (o := .tup [V.ref tb]) htc
        have Jc := Jb.ex ec
        have ed := Ex.new (o := .tup [V.int 0]) htd
        have Jd := Jc.ex ed
        have eL := Ex.new (o := .lst [V.non, .int 0, .str "", .bl true, .ref ta, .ref tc, .ref td]) hL
        refine pick H2 _ L _ [.none, .int 0, .str "", .bool true, .tuple [.none], .tuple [.tuple []], .tuple [.int 0]] B2 ((((ea.trans eb).trans ec).trans ed).trans eL) J2 upd_same ?_ ?_ (by show 1 ≤ 7; decide) (by show 7 ≤ 20; decide) (Jd.ne hL)
        · refine .cons .non (.cons (.int _) (.cons (.str _) (.cons (.bl _) (.cons (.tup (ex_t (But.cut (But.of (((eb.trans ec).trans ed).trans eL))) (cut_new J2 hta)) (.cons .non .nil)) (.cons (.tup (ex_t (But.cut (But.of (ed.trans eL))) (cut_new Jb htc)) (.cons ?_ .nil)) (.cons (.tup (ex_t (But.cut (But.of eL)) (cut_new Jc htd)) (.cons (.int _) .nil)) .nil))))))
          exact .tup (ex_t (But.cut (But.of ((ec.trans ed).trans eL))) (cut_new Ja htb)) .nil
        · intro e he
          simp only [List.mem_cons, List.not_mem_nil, or_false] at he
          rcases he with rfl | rfl | rfl | rfl | rfl | rfl | rfl <;> rfl
      | false =>
        have hpos : 1 ≤ ds.length := by
          cases ds with
          | nil => cases hE
          | cons _ _ => exact Nat.succ_le_succ (Nat.zero_le _)
        refine iteF ⟨_, rfl, rfl, _, rfl, iteD (fun c0 => ?_) (fun c0 => ?_)⟩
        · refine ⟨_, rfl, h1s, fun ta hta => ⟨Nat.zero_le _, fun tb htb => ⟨h1s, fun tc htc => ⟨h1s, fun td htd => ⟨(by show 7 ≤ sizeLine; decide), fun L hL => ?_⟩⟩⟩⟩⟩
          have ea := Ex.new (o := .tup [V.non]) hta
          have Ja := J2.ex ea
          have eb := Ex.new (o := .tup []) htb
          have Jb := Ja.ex eb
          have ec := Ex.new (o := .tup [V.ref tb]) htc
          have Jc := Jb.ex ec
          have ed := Ex.new (o := .tup [V.int 0]) htd
          have Jd := Jc.ex ed
          have eL := Ex.new (o := .lst [V.non, .int 0, .str "", .bl true, .ref ta, .ref tc, .ref td]) hL
          refine pick H2 _ L _ [.none, .int 0, .str "", .bool true, .tuple [.none], .tuple [.tuple []], .tuple [.int 0]] B2 ((((ea.trans eb).trans ec).trans ed).trans eL) J2 upd_same ?_ ?_ (by show 1 ≤ 7; decide) (by show 7 ≤ 20; decide) (Jd.ne hL)
          · refine .cons .non (.cons (.int _) (.cons (.str _) (.cons (.bl _) (.cons (.tup (ex_t (But.cut (But.of (((eb.trans ec).trans ed).trans eL))) (cut_new J2 hta)) (.cons .non .nil)) (.cons (.tup (ex_t (But.cut (But.of (ed.trans eL))) (cut_new Jb htc)) (.cons ?_ .nil)) (.cons (.tup (ex_t (But.cut (But.of eL)) (cut_new Jc htd)) (.cons (.int _) .nil)) .nil))))))
            exact .tup (ex_t (But.cut (But.of ((ec.trans ed).trans eL))) (cut_new Ja htb)) .nil
          · intro e he
            simp only [List.mem_cons, List.not_mem_nil, or_false] at he
            rcases he with rfl | rfl | rfl | rfl | rfl | rfl | rfl <;> rfl
        · have hfd : ∀ d ∈ ds, fits (n + 1) d = true := fun d hd => fits_up n d (fits_small n d (hall d hd))
          -- what ends
          have fin : ∀ (p : Addr) (ys : List V) (es : List PyData) (H' : Hp), SqT K (cut [j] H') p ys → DpAll K (cut [j] H') ys es → (∀ e ∈ es, fits (n + 1) e = true) → ys.length ≤ 100000 → Jar H' j → But [j] H H' → Q (.ref p) H' :=
            fun p ys es H' h1 h2 h3 h4 h5 h6 => q (.ref p) (.tuple es) H' (fits_tup (by rw [← h2.len]; exact h4) h3) h5 h6 (.tup h1 h2)
          refine ⟨_, rfl, _, rfl, a, xs, rfl, Or.inr (ex_t ex_cut hs2), j, _, rfl, J2, by omega, by omega, fun at0 H3 hat J3 B3 => ?_⟩
          refine ⟨_, rfl, _, rfl, j, a, xs, rfl, J3, Or.inr (ex_t B3.cut hs2), by omega, by omega, fun i0 part H4 hpt J4 B4 => ?_⟩
          have B24 := B3.trans B4
          have hs4 := ex_t B24.cut hs2
          have ha4 := ha2.up B24.cut
          have B4' := B2.trans B24
          refine ⟨_, _, rfl, ?_⟩
          refine ⟨_, rfl, rfl, _, rfl, iteD (fun c1 => ?_) (fun c1 => ?_)⟩
          · refine ⟨_, rfl, ?_⟩
            dsimp only [tNoPart]
            refine ⟨_, rfl, _, rfl, sl_to J4 hs4 fun p1 y1 H5 e5 s5 m5 l5 => ?_⟩
            have J5 := J4.ex e5
            refine ⟨_, rfl, _, rfl, _, _, rfl, rfl, _, rfl, ?_⟩
            dsimp only [tNoPart]
            refine sl_to J5 (ex_t (But.cut (S := [j]) (But.of e5)) hs4) fun p2 y2 H6 e6 s6 m6 l6 => ?_
            have J6 := J5.ex e6
            refine cat_to J6 (ex_t (But.cut (S := [j]) (But.of e6)) s5) s6 (by omega) fun p3 H7 e7 s7 => ?_
            have B47 : But [j] H4 H7 := But.of ((e5.trans e6).trans e7)
            have ha9 := ha4.up B47.cut
            obtain ⟨es1, he1, hm1⟩ := dp_sub ha9 y1 m5
            obtain ⟨es2, he2, hm2⟩ := dp_sub ha9 y2 m6
            refine fin p3 _ (es1 ++ es2) H7 s7 (he1.app he2) (fun e h => ?_) (by rw [List.length_append]; omega) (J6.ex e7) (B4'.trans B47)
            rcases List.mem_append.mp h with z | z
            · exact hfd e (hm1 e z)
            · exact hfd e (hm2 e z)
          · refine ⟨_, rfl, _, _, rfl, rfl, _, rfl, iteD (fun c2 => ?_) (fun c2 => ?_)⟩
            · refine ⟨_, rfl, ?_⟩
              dsimp only [tNoPart]
              refine ⟨_, rfl, _, rfl, sl_to J4 hs4 fun p1 y1 H5 e5 s5 m5 l5 => ?_⟩
              have J5 := J4.ex e5
              refine ⟨_, rfl, h1s, fun tp htp => ?_⟩
              have e6 := Ex.new (o := .tup [part]) htp
              have J6 := J5.ex e6
              refine cat_to J6 (ex_t (But.cut (S := [j]) (But.of e6)) s5) (cut_new J5 htp) (by show y1.length + 1 ≤ 100000; omega) fun p3 H7 e7 s7 => ?_
              have J7 := J6.ex e7
              refine ⟨_, rfl, _, rfl, _, rfl, _, _, rfl, rfl, _, _, rfl, rfl, _, rfl, ?_⟩
              dsimp only [tNoPart]
              have B47 : But [j] H4 H7 := But.of ((e5.trans e6).trans e7)
              refine sl_to J7 (ex_t B47.cut hs4) fun p4 y2 H8 e8 s8 m8 l8 => ?_
              have J8 := J7.ex e8
              refine cat_to J8 (ex_t (But.cut (S := [j]) (But.of e8)) s7) s8 (by rw [List.length_append]; show y1.length + 1 + y2.length ≤ 100000; omega) fun p5 H9 e9 s9 => ?_
              have B49 : But [j] H4 H9 := B47.trans (But.of (e8.trans e9))
              have ha9 := ha4.up B49.cut
              obtain ⟨es1, he1, hm1⟩ := dp_sub ha9 y1 m5
              obtain ⟨es2, he2, hm2⟩ := dp_sub ha9 y2 m8
              obtain ⟨dp, hdp, hDp⟩ := ha9.get hpt
              refine fin p5 _ ((es1 ++ [dp]) ++ es2) H9 s9 ((he1.app (.cons hDp .nil)).app he2) (fun e h => ?_) (by rw [List.length_append, List.length_append]; show y1.length + 1 + y2.length ≤ 100000; omega) (J8.ex e9) (B4'.trans B49)
              rcases List.mem_append.mp h with z | z
              · rcases List.mem_append.mp z with z | z
                · exact hfd e (hm1 e z)
                · rw [List.mem_singleton.mp z]
                  exact hfd dp (List.mem_of_getElem? hdp)
              · exact hfd e (hm2 e z)
            · refine ⟨_, rfl, rfl, _, rfl, iteD (fun c3 => ?_) (fun c3 => ?_)⟩
              · refine ⟨_, rfl, a, xs, rfl, ex_t ex_cut hs4, fun p hp => ?_⟩
                have e5 := Ex.new (o := .tup xs.reverse) hp
                obtain ⟨es1, he1, hm1⟩ := dp_sub (ha4.up (But.cut (S := [j]) (But.of e5))) xs.reverse (fun y hy => List.mem_reverse.mp hy)
                exact fin p _ es1 _ (cut_new J4 hp) he1 (fun e h => hfd e (hm1 e h)) (by rw [List.length_reverse]; omega) (J4.ex e5) (B4'.trans (But.of e5))
              · refine ⟨_, rfl, ?_⟩
                dsimp only [tNoPart]
                refine ⟨_, rfl, _, rfl, sl_to J4 hs4 fun p1 y1 H5 e5 s5 m5 l5 => ?_⟩
                have J5 := J4.ex e5
                have hs5 := ex_t (But.cut (S := [j]) (But.of e5)) hs4
                have ha5 := ha4.up (But.cut (S := [j]) (But.of e5))
                have hatl : at0 < xs.length := by omega
                obtain ⟨x0, hx0⟩ : ∃ x0, xs[at0]? = some x0 := ⟨xs[at0], List.getElem?_eq_getElem hatl⟩
                obtain ⟨d0, hd0, hD0⟩ := ha5.get hx0
                refine ⟨_, rfl, _, rfl, _, rfl, a, xs, _, _, rfl, rfl, ex_t ex_cut hs5, at_of (by omega) hx0, j, x0, d0, rfl, J5, hD0, hall d0 (List.mem_of_getElem? hd0), fun v' d' H6 hf J6 B6 hv' => ?_⟩
                refine ⟨h1s, fun tp htp => ?_⟩
                have e7 := Ex.new (o := .tup [v']) htp
                have J7 := J6.ex e7
                refine cat_to J7 (ex_t (But.cut (B6.trans (But.of e7))) s5) (cut_new J6 htp) (by show y1.length + 1 ≤ 100000; omega) fun p3 H8 e8 s8 => ?_
                have J8 := J7.ex e8
                refine ⟨_, rfl, _, rfl, _, _, rfl, rfl, _, rfl, ?_⟩
                dsimp only [tNoPart]
                have B68 : But [j] H6 H8 := But.of (e7.trans e8)
                have B58 : But [j] H5 H8 := B6.trans B68
                refine sl_to J8 (ex_t B58.cut hs5) fun p4 y2 H9 e9 s9 m9 l9 => ?_
                have J9 := J8.ex e9
                refine cat_to J9 (ex_t (But.cut (S := [j]) (But.of e9)) s8) s9 (by rw [List.length_append]; show y1.length + 1 + y2.length ≤ 100000; omega) fun p5 H10 e10 s10 => ?_
                have B8 : But [j] H8 H10 := But.of (e9.trans e10)
                have ha9 := ha5.up (B58.trans B8).cut
                obtain ⟨es1, he1, hm1⟩ := dp_sub ha9 y1 m5
                obtain ⟨es2, he2, hm2⟩ := dp_sub ha9 y2 m9
                refine fin p5 _ ((es1 ++ [d']) ++ es2) H10 s10 ((he1.app (.cons (hv'.up (B68.trans B8).cut) .nil)).app he2) (fun e h => ?_) (by rw [List.length_append, List.length_append]; show y1.length + 1 + y2.length ≤ 100000; omega) (J9.ex e10) (B4'.trans ((But.of e5).trans (B58.trans B8)))
                rcases List.mem_append.mp h with z | z
                · rcases List.mem_append.mp z with z | z
                  · exact hfd e (hm1 e z)
                  · rw [List.mem_singleton.mp z]
                    exact hf
                · exact hfd e (hm2 e z)
theorem ok_bent (D : Dn K mg "_law_bent" s_law_bent ["jar", "thing"]) (T : Bt mg) (f_law_take : Cal P w K mg base 1 "_law_take" spTake) (f_law_one : Cal P w K mg base 2 "_law_one" (spOne K)) : ∀ n, Cal P w K mg base (n + 3) "_law_bent" (spBent K n)
  | 0 => by
    refine cal_of D sc_law_bent (fun vs H Q E h => ?_) (fun f cdv A outer s H vs Q E hr h => ?_)
    · obtain ⟨j, v, d, rfl, _⟩ := h
      rfl
    · obtain ⟨j, v, d, rfl, J, hd, hsm, q⟩ := h
      cases hsm
  | n + 1 => ok_bent_succ D T f_law_take f_law_one (ok_bent D T f_law_take f_law_one n)
end
end K22
end
section
set_option pp.maxSteps 500
set_option Elab.async false
set_option linter.all false
set_option maxRecDepth 100000
set_option maxHeartbeats 4000000
namespace K22
open PySem PySem.Spec PyProof.Rows L2 LB LamX Evl
abbrev hSuite : List Stmt := match defBody s_law_bl_said with
  | [.Try _ [.ExceptHandler _ _ b _] _ _ _] => b
  | _ => []
abbrev hS (i : Nat) : Stmt := hSuite.getD i (.Return none ⟨0, 0, 0, 0⟩)
theorem none_of {A B : Hp} {a : Addr} (e : Ex A B) (h : B a = none) : A a = none := by
  cases k : A a with
  | none => rfl
  | some o =>
    have z := e a o k
    rw [h] at z
    cases z
/-- the row behind _law_bl_said -/
def saidE (K : PySem.W.Frag) (CR : Addr) (cl : Str → Addr) (Q : VK) : XK := fun cls d H => PySem.W.exmOne K cls (.ref CR) = some true ∧ ∃ (C dd : Addr) (fs : List (Str × V)) (v : V) (c : Str), c ∈ cls4 ∧ cls = .ref C ∧ ExcC K C ∧ XfC K C ∧ PySem.W.findIn K (.ref C) "what" = some none ∧
  (∀ x ∈ cls4, PySem.W.kitOne K (.ref C) (.ref (cl x)) = some (decide (x = c))) ∧ d = some dd ∧ H dd = some (.xd fs) ∧ fs.lookup ("what" : Str) = some v ∧ ∀ p H', Ex H H' → H' p = some (.tup [.str c, v]) → Q (.ref p) H'
def TTsaid (K : PySem.W.Frag) (CR : Addr) (cl : Str → Addr) : (XK → Hp → VK → Prop) → Hp → VK → Prop := fun tl H Q => tl (saidE K CR cl Q) H fun v H' => 2 ≤ sizeLine ∧ ∀ p, H' p = none → Q (.ref p) (upd H' p (.tup [.str "told", v]))
theorem said_gives {X : Cx} {g CR : Addr} {cl : Str → Addr} {cdg : Value} {q : Str} (hR : X.mg "Refused" = some (.ref CR)) (hB : ∀ c ∈ cls4, X.mg c = some (.ref (cl c))) (T : X.mg "isinstance" = none) :
    GivesToN X ["asked", "refused_one", "rows", "row"] "_law_bl_said" (defScope s_law_bl_said) g cdg (defBody s_law_bl_said) "asked" q (TTsaid X.K CR cl) := by
  intro f c' s H Q tl act hc h
  apply Exists.intro
  apply And.intro
  · apply pss_one
    apply L2N.ps_try_as (X := ((cxOf C8.CX0 X.prog X.w X.K X.mg X.base ["asked", "refused_one", "rows", "row"] "_law_bl_said" (defScope s_law_bl_said) g cdg X.A X.stack s H C8.E0).nox)) (i := 1) (c := .ref CR)
      (tb := fun W D σ H => ∃ Ech : XK, (∀ cls d σ' H', Ech cls d H' → W cls d σ' H') ∧ σ[0]? = some (some (.ref f)) ∧ H c' = some (CodeO c' q) ∧ tl Ech H (fun v H' => 2 ≤ sizeLine ∧ ∀ p, H' p = none → D.rt (.ref p) (upd H' p (.tup [.str "told", v]))))
      rfl rfl sc_law_bl_said.nd rfl rfl ⟨by rfl, by decide, .inl hR⟩ takes0N
    · intro W pn xe tk _
      constructor
      intro pins s' σ H' D I h'
      obtain ⟨Ech, hW, h1, h2, h3⟩ := h'
      refine (pss_one (ps_ret (pe_tup (pa_cons pe_str (pa_cons (act W pn xe Ech _ _ tk hW) pa_nil))))).run pins s' σ H' D I ⟨h1, h2, h3⟩
    · intro a oe cls d pn hz hf
      have h1 : PS (((cxOf C8.CX0 X.prog X.w X.K X.mg X.base ["asked", "refused_one", "rows", "row"] "_law_bl_said" (defScope s_law_bl_said) g cdg X.A X.stack s H C8.E0).nox).suite a ((a, oe) :: pn)) (hS 0) _ := (ps_set (i := 2) sc_law_bl_said.nd rfl (Or.inl rfl) (pe_lst (pa_cons (pe_tup (pa_cons pe_str (pa_cons (pe_callB (call_isX (X := ((cxOf C8.CX0 X.prog X.w X.K X.mg X.base ["asked", "refused_one", "rows", "row"] "_law_bl_said" (defScope s_law_bl_said) g cdg X.A X.stack s H C8.E0).nox)) (pn := pn) hz.zc hf) (by rfl) T (by decide +kernel) (pa_cons (pv 1) (pa_cons (C8.pe_gc (v := .ref (cl "BadMany")) (by rfl) ⟨_, hB "BadMany" (by simp), rfl⟩) pa_nil))) pa_nil))) (pa_cons (pe_tup (pa_cons pe_str (pa_cons (pe_callB (call_isX (X := ((cxOf C8.CX0 X.prog X.w X.K X.mg X.base ["asked", "refused_one", "rows", "row"] "_law_bl_said" (defScope s_law_bl_said) g cdg X.A X.stack s H C8.E0).nox)) (pn := pn) hz.zc hf) (by rfl) T (by decide +kernel) (pa_cons (pv 1) (pa_cons (C8.pe_gc (v := .ref (cl "TooMany")) (by rfl) ⟨_, hB "TooMany" (by simp), rfl⟩) pa_nil))) pa_nil))) pa_nil))))
      have h2 : PS (((cxOf C8.CX0 X.prog X.w X.K X.mg X.base ["asked", "refused_one", "rows", "row"] "_law_bl_said" (defScope s_law_bl_said) g cdg X.A X.stack s H C8.E0).nox).suite a ((a, oe) :: pn)) (hS 1) _ := (ps_expr (pe_bm PySem.F.plainAttrs_list PySem.F.slot_list_extend PySem.F.type_list_extend mt_extend (pv 2) (pa_cons (pe_lst (pa_cons (pe_tup (pa_cons pe_str (pa_cons (pe_callB (call_isX (X := ((cxOf C8.CX0 X.prog X.w X.K X.mg X.base ["asked", "refused_one", "rows", "row"] "_law_bl_said" (defScope s_law_bl_said) g cdg X.A X.stack s H C8.E0).nox)) (pn := pn) hz.zc hf) (by rfl) T (by decide +kernel) (pa_cons (pv 1) (pa_cons (C8.pe_gc (v := .ref (cl "BadBars")) (by rfl) ⟨_, hB "BadBars" (by simp), rfl⟩) pa_nil))) pa_nil))) (pa_cons (pe_tup (pa_cons pe_str (pa_cons (pe_callB (call_isX (X := ((cxOf C8.CX0 X.prog X.w X.K X.mg X.base ["asked", "refused_one", "rows", "row"] "_law_bl_said" (defScope s_law_bl_said) g cdg X.A X.stack s H C8.E0).nox)) (pn := pn) hz.zc hf) (by rfl) T (by decide +kernel) (pa_cons (pv 1) (pa_cons (C8.pe_gc (v := .ref (cl "BadIndex")) (by rfl) ⟨_, hB "BadIndex" (by simp), rfl⟩) pa_nil))) pa_nil))) pa_nil))) pa_nil)))
      have h3 : PS (((cxOf C8.CX0 X.prog X.w X.K X.mg X.base ["asked", "refused_one", "rows", "row"] "_law_bl_said" (defScope s_law_bl_said) g cdg X.A X.stack s H C8.E0).nox).suite a ((a, oe) :: pn)) (hS 2) _ := (ps_ret (pe_tup (pa_cons (pe_join pe_str (pe_lcH (own := [("row", 3)]) (hot_suite hz hf) sc_law_bl_said.nd (pi_listH (pv 2)) (blkOk_by (N := ["asked", "refused_one", "rows", "row"]) (sc := defScope s_law_bl_said) (by decide +kernel)) (fun _ _ _ _ _ => (pg_name (i := 3) sc_law_bl_said.nd rfl (Or.inl rfl))) (fun _ _ _ _ _ => (pts_one (pt_val (pe_ix (ixK_tup (K := X.K) (by rfl)) (pv 3) pe_int (fun _ _ => rfl))))) (fun _ _ _ _ _ => (pe_ix (ixK_tup (K := X.K) (by rfl)) (pv 3) pe_int (fun _ _ => rfl))))) (pa_cons (pe_xfX (X := ((cxOf C8.CX0 X.prog X.w X.K X.mg X.base ["asked", "refused_one", "rows", "row"] "_law_bl_said" (defScope s_law_bl_said) g cdg X.A X.stack s H C8.E0).nox)) (pn := pn) hz.zc hf (pv 1)) pa_nil))))
      simp only [suite_K] at h1 h2 h3
      exact pss_guard (n := 4) (pss_cons h1 (pss_cons h2 (pss_one h3)))
  · refine ⟨saidE X.K CR cl Q, fun cls d σ' H' hE => ?_, rfl, hc, h⟩
    obtain ⟨k1, C, dd, fs, v, c, hcm, rfl, ec, xf, hno, hk, rfl, hd, hl, q⟩ := hE
    refine ⟨true, k1, fun _ a _ hlen => ?_, fun z => by cases z⟩
    obtain ⟨s0, s1, s2, s3, rfl⟩ : ∃ s0 s1 s2 s3, σ' = [s0, s1, s2, s3] := by
      rw [List.length_set] at hlen
      match σ', hlen with
      | [a, b, c, d], _ => exact ⟨a, b, c, d, rfl⟩
    have h2s : 2 ≤ sizeLine := by decide
    have hns : ∀ {m : Nat}, m ≤ 100 → m ≤ sizeLine := fun {m} h => by
      rw [sizeLine_eq]
      omega
    have e0 : Ex H' H' := Ex.refl H'
    refine ⟨_, rfl, C, .ref (cl "BadMany"), _, _, dd, fs, rfl, ec, rfl, fun u r => r, hk _ (by simp), rfl, e0 _ _ hd, h2s, fun t1 ht1 => ?_⟩
    have f1 := Ex.new (o := .tup [V.str "BadMany", .bl (decide (("BadMany" : Str) = c))]) ht1
    have e1 := e0.trans f1
    have r1 : (upd H' t1 (.tup [V.str "BadMany", .bl (decide (("BadMany" : Str) = c))])) t1 = _ := upd_same
    revert f1 e1 r1
    generalize hG1 : upd H' t1 (.tup [V.str "BadMany", .bl (decide (("BadMany" : Str) = c))]) = G1
    intro f1 e1 r1
    refine ⟨_, rfl, C, .ref (cl "TooMany"), _, _, dd, fs, rfl, ec, rfl, fun u r => r, hk _ (by simp), rfl, e1 _ _ hd, h2s, fun t2 ht2 => ?_⟩
    have f2 := Ex.new (o := .tup [V.str "TooMany", .bl (decide (("TooMany" : Str) = c))]) ht2
    have e2 := e1.trans f2
    have r2 : (upd G1 t2 (.tup [V.str "TooMany", .bl (decide (("TooMany" : Str) = c))])) t2 = _ := upd_same
    revert f2 e2 r2
    generalize hG2 : upd G1 t2 (.tup [V.str "TooMany", .bl (decide (("TooMany" : Str) = c))]) = G2
    intro f2 e2 r2
    refine ⟨hns (m := 2) (by decide), fun L hL => ?_⟩
    have fL := Ex.new (o := .lst [.ref t1, .ref t2]) hL
    have eL := e2.trans fL
    have rL : (upd G2 L (.lst [.ref t1, .ref t2])) L = _ := upd_same
    revert fL eL rL
    generalize hGL : upd G2 L (.lst [.ref t1, .ref t2]) = GL
    intro fL eL rL
    refine ⟨_, rfl, Or.inl ⟨rfl, _, .inl (.inl rL)⟩, ?_⟩
    refine ⟨_, rfl, C, .ref (cl "BadBars"), _, _, dd, fs, rfl, ec, rfl, fun u r => r, hk _ (by simp), rfl, eL _ _ hd, h2s, fun t3 ht3 => ?_⟩
    have f3 := Ex.new (o := .tup [V.str "BadBars", .bl (decide (("BadBars" : Str) = c))]) ht3
    have e3 := eL.trans f3
    have r3 : (upd GL t3 (.tup [V.str "BadBars", .bl (decide (("BadBars" : Str) = c))])) t3 = _ := upd_same
    revert f3 e3 r3
    generalize hG3 : upd GL t3 (.tup [V.str "BadBars", .bl (decide (("BadBars" : Str) = c))]) = G3
    intro f3 e3 r3
    refine ⟨_, rfl, C, .ref (cl "BadIndex"), _, _, dd, fs, rfl, ec, rfl, fun u r => r, hk _ (by simp), rfl, e3 _ _ hd, h2s, fun t4 ht4 => ?_⟩
    have f4 := Ex.new (o := .tup [V.str "BadIndex", .bl (decide (("BadIndex" : Str) = c))]) ht4
    have e4 := e3.trans f4
    have r4 : (upd G3 t4 (.tup [V.str "BadIndex", .bl (decide (("BadIndex" : Str) = c))])) t4 = _ := upd_same
    revert f4 e4 r4
    generalize hG4 : upd G3 t4 (.tup [V.str "BadIndex", .bl (decide (("BadIndex" : Str) = c))]) = G4
    intro f4 e4 r4
    refine ⟨hns (m := 2) (by decide), fun M hM => ?_⟩
    have fM := Ex.new (o := .lst [.ref t3, .ref t4]) hM
    have rM : (upd G4 M (.lst [.ref t3, .ref t4])) M = _ := upd_same
    revert fM rM
    generalize hGM : upd G4 M (.lst [.ref t3, .ref t4]) = GM
    intro fM rM
    have eLM : Ex GL GM := ((Ex.trans f3 (Ex.trans f4 fM)))
    have kL : GM L = some (.lst [.ref t1, .ref t2]) := eLM _ _ rL
    refine ⟨L, M, _, _, rfl, rfl, kL, rM, hns (m := 4) (by decide), ?_⟩
    have nL : G2 L = none := hL
    have x1 : GM t1 = some (.tup [V.str "BadMany", .bl (decide (("BadMany" : Str) = c))]) := eLM _ _ (fL _ _ ((f2) _ _ r1))
    have y1 : t1 ≠ L := fun z => by
      have q1 := (f2) _ _ r1
      rw [z, nL] at q1
      cases q1
    have x2 : GM t2 = some (.tup [V.str "TooMany", .bl (decide (("TooMany" : Str) = c))]) := eLM _ _ (fL _ _ ((Ex.refl G2) _ _ r2))
    have y2 : t2 ≠ L := fun z => by
      have q1 := (Ex.refl G2) _ _ r2
      rw [z, nL] at q1
      cases q1
    have x3 : GM t3 = some (.tup [V.str "BadBars", .bl (decide (("BadBars" : Str) = c))]) := fM _ _ ((f4) _ _ r3)
    have y3 : t3 ≠ L := fun z => by
      have q1 := (Ex.refl GL) _ _ rL
      rw [← z, ht3] at q1
      cases q1
    have x4 : GM t4 = some (.tup [V.str "BadIndex", .bl (decide (("BadIndex" : Str) = c))]) := fM _ _ ((Ex.refl G4) _ _ r4)
    have y4 : t4 ≠ L := fun z => by
      have q1 := (f3) _ _ rL
      rw [← z, ht4] at q1
      cases q1
    have eZ : Ex H' (upd GM L (.lst [.ref t1, .ref t2, .ref t3, .ref t4])) := Ex.mut (((e4).trans fM)) (none_of e2 nL)
    dsimp only [tRet, tTup]
    unfold tCons
    dsimp only
    refine LB.join_rows (K := X.K) (i := 2) (j := 3) (L := L) (σ := ([s0, s1, s2, s3].set 1 (some (V.ref a))).set 2 (some (V.ref L))) [(t1, "BadMany", decide (("BadMany" : Str) = c)), (t2, "TooMany", decide (("TooMany" : Str) = c)), (t3, "BadBars", decide (("BadBars" : Str) = c)), (t4, "BadIndex", decide (("BadIndex" : Str) = c))] rfl (by show (3 : Nat) < 4; decide) upd_same (fun r hr => ?_) (show (4 : Nat) ≤ 1000 from by decide) (fun r hr => ?_) (fun H2 eH => ?_)
    · simp only [List.mem_cons, List.not_mem_nil, or_false] at hr
      rcases hr with rfl | rfl | rfl | rfl
      · exact (upd_ne y1).trans x1
      · exact (upd_ne y2).trans x2
      · exact (upd_ne y3).trans x3
      · exact (upd_ne y4).trans x4
    · simp only [List.mem_cons, List.not_mem_nil, or_false] at hr
      rcases hr with rfl | rfl | rfl | rfl <;> (dsimp only; decide)
    · refine ⟨C, xf, hno, _, rfl, rfl, rfl, dd, fs, v, rfl, eH _ _ (eZ _ _ hd), hl, h2s, fun p hp => ?_⟩
      have hj : Txt.join " " ((([(t1, "BadMany", decide (("BadMany" : Str) = c)), (t2, "TooMany", decide (("TooMany" : Str) = c)), (t3, "BadBars", decide (("BadBars" : Str) = c)), (t4, "BadIndex", decide (("BadIndex" : Str) = c))] : List (Addr × Str × Bool)).filter (fun r : Addr × Str × Bool => r.2.2)).map (·.2.1)) = c := by
        have hcm' : c = "BadMany" ∨ c = "TooMany" ∨ c = "BadBars" ∨ c = "BadIndex" := by simpa [cls4] using hcm
        rcases hcm' with rfl | rfl | rfl | rfl <;> rfl
      rw [hj]
      exact q p _ ((eZ.trans eH).trans (Ex.new hp)) upd_same
end K22
end
section
set_option pp.maxSteps 500
set_option Elab.async false
set_option linter.all false
set_option maxRecDepth 100000
set_option maxHeartbeats 4000000
namespace LB
open PySem PySem.Spec PyProof.Rows L2 LamX Evl
section
variable {K : PySem.W.Frag}
mutual
theorem dp_extN {H H' : Hp} (e : ExtN H H') : ∀ (d : PyData) (v : V), Dp K H v d → Dp K H' v d
  | .none, _, h => by cases h; exact .non
  | .bool b, _, h => by cases h; exact .bl b
  | .int i, _, h => by cases h; exact .int i
  | .str x, _, h => by cases h; exact .str x
  | .list ds, _, h => by
    cases h with
    | lst hs ha => exact .lst (extN_l e hs) (dpAll_extN e ds _ ha)
  | .tuple ds, _, h => by
    cases h with
    | tup hs ha => exact .tup (extN_t e hs) (dpAll_extN e ds _ ha)
  | .dict _, _, h => by cases h
theorem dpAll_extN {H H' : Hp} (e : ExtN H H') : ∀ (ds : List PyData) (vs : List V), DpAll K H vs ds → DpAll K H' vs ds
  | [], _, h => by cases h; exact .nil
  | d :: ds, _, h => by
    cases h with
    | cons h1 h2 => exact .cons (dp_extN e d _ h1) (dpAll_extN e ds _ h2)
end
end
theorem tabs_but {T : List (Addr × Str)} {H H' : Hp} {j : Addr} {xs : List V} (t : Tabs T H) (b : But [j] H H') (hj : H j = some (.lst xs)) : Tabs T H' := fun p hp => by
  obtain ⟨ps, h1, h2, h3⟩ := t p hp
  refine ⟨ps, b _ _ (by simpa using fun e : p.1 = j => by rw [e, hj] at h1; cases h1) h1, h2, fun pos cv hc => ?_⟩
  obtain ⟨c, e1, e2⟩ := h3 pos cv hc
  exact ⟨c, e1, b _ _ (by simpa using fun e : c = j => by rw [e, hj] at e2; cases e2) e2⟩
/-- all but j and the tables stay -/
def BN (j : Addr) (H H' : Hp) : Prop := ∀ b o, b ≠ j → H b = some o → (∀ ps, o ≠ .tbl ps) → H' b = some o
theorem BN.refl (j : Addr) (H : Hp) : BN j H H := fun _ _ _ h _ => h
theorem BN.trans {j : Addr} {H H1 H2 : Hp} (a : BN j H H1) (b : BN j H1 H2) : BN j H H2 := fun c o n h t => b c o n (a c o n h t) t
theorem BN.but {j : Addr} {H H' : Hp} (b : But [j] H H') : BN j H H' := fun c o n h _ => b c o (by simpa using n) h
theorem BN.ex {j : Addr} {H H' : Hp} (e : Ex H H') : BN j H H' := fun c o _ h _ => e c o h
theorem BN.extN {j : Addr} {H H' : Hp} (e : ExtN H H') : BN j H H' := fun c o _ h t => e c o h t
theorem BN.mut {j p : Addr} {o : HO} {H0 H : Hp} (b : BN j H0 H) (h : H0 p = none) : BN j H0 (upd H p o) := fun c u n hc t => by
  rw [upd_ne (ne_of_none hc h)]
  exact b c u n hc t
theorem BN.cut {j : Addr} {H H' : Hp} (b : BN j H H') : ExtN (cut [j] H) (cut [j] H') := fun c o hc t => by
  by_cases n : c = j
  · rw [cut_in (by simpa using n)] at hc
    cases hc
  · rw [cut_out (by simpa using n)] at hc ⊢
    exact b c o n hc t
end LB
namespace K22
open PySem PySem.Spec PyProof.Rows L2 LB LamX Evl
theorem Jar.extN {H H' : Hp} {j : Addr} (J : Jar H j) (e : ExtN H H') : Jar H' j := by
  obtain ⟨a, b, h, q⟩ := J
  exact ⟨a, b, e _ _ h (fun ps z => by cases z), q⟩
/-- the state of a helper that draws from j and makes lambdas -/
structure Gs (j : Addr) (TT : List (Addr × Str)) (H0 H : Hp) : Prop where
  jar : Jar H j
  tab : Tabs TT H
  bn : BN j H0 H
section
variable {K : PySem.W.Frag} {j : Addr} {TT : List (Addr × Str)} {H0 H H' : Hp}
theorem Gs.ex (g : Gs j TT H0 H) (e : Ex H H') : Gs j TT H0 H' := ⟨g.jar.ex e, g.tab.ext e, g.bn.trans (.ex e)⟩
theorem Gs.but (g : Gs j TT H0 H) (J : Jar H' j) (b : But [j] H H') : Gs j TT H0 H' := by
  obtain ⟨x, y, hj, _⟩ := g.jar
  exact ⟨J, tabs_but g.tab b hj, g.bn.trans (.but b)⟩
theorem Gs.extN (g : Gs j TT H0 H) (e : ExtN H H') (t : Tabs TT H') : Gs j TT H0 H' := ⟨g.jar.extN e, t, g.bn.trans (.extN e)⟩
theorem Gs.sub (g : Gs j TT H0 H) {H1 : Hp} (g' : Gs j TT H H1) : Gs j TT H0 H1 := ⟨g'.jar, g'.tab, g.bn.trans g'.bn⟩
theorem Gs.here (J : Jar H j) (t : Tabs TT H) : Gs j TT H H := ⟨J, t, .refl j H⟩
theorem Gs.put {p : Addr} {xs ys : List V} (g : Gs j TT H0 H) (h0 : H0 p = none) (hp : H p = some (.lst xs)) (n : p ≠ j) : Gs j TT H0 (upd H p (.lst ys)) :=
  ⟨g.jar.put n, tabs_but (H' := upd H p (.lst ys)) g.tab (But.put (by simp)) hp, g.bn.mut h0⟩
theorem Gs.dp {v : V} {d : PyData} (g : Gs j TT H0 H) (h : Dp K (cut [j] H0) v d) : Dp K (cut [j] H) v d := dp_extN g.bn.cut _ _ h
end
structure RefN (K : PySem.W.Frag) (mg : Str → Option Value) (CR : Addr) (cl : Str → Addr) (cs : List Str) : Prop where
  hR : mg "Refused" = some (.ref CR)
  hB : ∀ c ∈ cs, mg c = some (.ref (cl c))
  em : ∀ c ∈ cs, PySem.W.exmOne K (.ref (cl c)) (.ref CR) = some true
  ec : ∀ c ∈ cs, ExcC K (cl c)
  xf : ∀ c ∈ cs, XfC K (cl c)
  no : ∀ c ∈ cs, PySem.W.findIn K (.ref (cl c)) "what" = some none
  ki : ∀ c ∈ cs, ∀ x ∈ cs, PySem.W.kitOne K (.ref (cl c)) (.ref (cl x)) = some (decide (x = c))
def Out.ok (o : Out) : Prop := match o with
  | .told _ => True
  | .bad c _ => c ∈ cls4
theorem row_out {K : PySem.W.Frag} {mg : Str → Option Value} {CR : Addr} {cl : Str → Addr} {TT : List (Addr × Str)} {σ : L2.St} {H : Hp} {Q : VK} {t : XK → TE} (R : RefN K mg CR cl cls4) (hT : Tabs TT H) (o : Out) (ho : o.ok)
    (run : ∀ G, ExtN H G → ∀ (Q' : VK) (E : XK), outE K cl o G Q' E → t E σ G Q') (q : ∀ (p : Addr) (H' : Hp), ExtN H H' → Tabs TT H' → (∃ x y, H' p = some (.tup [x, y])) → Dp K H' (.ref p) o.row → Q (.ref p) H') : tLam TT (TTsaid K CR cl) t σ H Q := by
  refine ⟨hT, fun G eN TG => ?_⟩
  have h2 : 2 ≤ sizeLine := by decide
  refine run G eN _ _ ?_
  cases o with
  | told d =>
    intro v H' e hd
    refine ⟨h2, fun p hp => ?_⟩
    have e1 := e.trans (Ex.new (o := .tup [.str "told", v]) hp)
    exact q p _ (eN.trans (ExtN.of e1)) (TG.ext e1) ⟨_, _, upd_same⟩ (.tup (Or.inl (Or.inl upd_same)) (.cons (.str _) (.cons (hd.up (Ex.new hp)) .nil)))
  | bad c w =>
    have hc : c ∈ cls4 := ho
    intro H' x v e hx hd
    refine ⟨R.em c hc, cl c, x, _, v, c, hc, rfl, R.ec c hc, R.xf c hc, R.no c hc, fun y hy => R.ki c hc y hy, rfl, upd_same, rfl, fun p H2 e2 hp => ?_⟩
    have e1 := e.trans ((Ex.new (o := .xd [("what", v)]) hx).trans e2)
    exact q p _ (eN.trans (ExtN.of e1)) (TG.ext e1) ⟨_, _, hp⟩ (.tup (Or.inl (Or.inl hp)) (.cons (.str _) (.cons ((hd.up (Ex.new hx)).up e2) .nil)))
end K22
end
section
set_option pp.maxSteps 400
set_option Elab.async false
set_option linter.all false
set_option maxRecDepth 100000
set_option maxHeartbeats 4000000
namespace K22
open PySem PySem.Spec PyProof.Rows L2 LB LamX Evl
/-! ### tuples made beside what may change -/
theorem cat_S {K : PySem.W.Frag} {S : List Addr} {H : Hp} {a b : Addr} {xs ys : List V} {Q : VK} (hS : ∀ x ∈ S, H x ≠ none) (hs : SqT K (cut S H) a xs) (ht : SqT K (cut S H) b ys) (hl : xs.length + ys.length ≤ 100000)
    (q : ∀ p H', Ex H H' → SqT K (cut S H') p (xs ++ ys) → Q (.ref p) H') : rCatA K (.ref a) (.ref b) H Q := by
  refine ⟨a, b, xs, ys, rfl, rfl, ex_t ex_cut hs, ex_t ex_cut ht, sz_of hl, fun e => ?_, fun _ e => ?_, fun _ _ p hp => q p _ (Ex.new hp) (Or.inl (Or.inl (by rw [cut_out (fun z => hS p z hp), upd_same])))⟩
  · subst e
    exact q b H (Ex.refl H) ht
  · subst e
    exact q a H (Ex.refl H) (by rw [List.append_nil]; exact hs)
theorem dp_newS {K : PySem.W.Frag} {S : List Addr} {H : Hp} {p : Addr} {xs : List V} {ds : List PyData} (hS : ∀ x ∈ S, H x ≠ none) (hp : H p = none) (ha : DpAll K (cut S H) xs ds) : Dp K (cut S (upd H p (.tup xs))) (.ref p) (.tuple ds) :=
  .tup (Or.inl (Or.inl (by rw [cut_out (fun z => hS p z hp), upd_same]))) (ha.up (But.of (Ex.new hp)).cut)
theorem bar_newS {K : PySem.W.Frag} {S : List Addr} {H : Hp} {t : Addr} (hS : ∀ x ∈ S, H x ≠ none) (hp : H t = none) (k b d : Int) : Dp K (cut S (upd H t (.tup [.int k, .int b, .int d]))) (.ref t) (barD (k, b, d)) :=
  bar_new (fun z => hS t z hp) k b d
theorem dpAll_rep {K : PySem.W.Frag} {H : Hp} {v : V} {d : PyData} (h : Dp K H v d) : ∀ n : Nat, DpAll K H (List.replicate n [v]).flatten (List.replicate n d)
  | 0 => .nil
  | n + 1 => by
    rw [List.replicate_succ, List.replicate_succ, List.flatten_cons]
    exact .cons h (dpAll_rep h n)
theorem small_bar {x : Bar} (h : goodB x = true) : smalls 2 (barD x) = true := by
  have h' := of_decide_eq_true h
  show (decide _ && (decide _ && (decide _ && (decide _ && true)))) = true
  simp only [Bool.and_eq_true, decide_eq_true_eq, Bool.and_true]
  refine ⟨by simp, ?_, ?_, ?_⟩ <;> omega
theorem small_bars {bs : List Bar} (h : ∀ x ∈ bs, goodB x = true) (hl : bs.length ≤ 1000) : smalls 3 (barsD bs) = true := by
  show (decide _ && List.all _ _) = true
  rw [Bool.and_eq_true, decide_eq_true_eq, List.all_eq_true, List.length_map]
  refine ⟨hl, fun d hd => ?_⟩
  obtain ⟨x, hx, rfl⟩ := List.mem_map.mp hd
  exact small_bar (h x hx)
theorem fits_bar (x : Bar) : fits 3 (barD x) = true := rfl
theorem fits_tupL {n : Nat} {ds : List PyData} (h : ∀ d ∈ ds, fits n d = true) (hl : ds.length ≤ 100000) : fits (n + 1) (.tuple ds) = true := by
  show (decide _ && List.all _ _) = true
  rw [Bool.and_eq_true, decide_eq_true_eq, List.all_eq_true]
  exact ⟨hl, h⟩
/-- data that law_like may look at -/
def Mine (K : PySem.W.Frag) (S : List Addr) (H : Hp) (v : V) : Prop := ∃ d, Dp K (cut S H) v d ∧ fits 4 d = true
theorem Mine.up {K : PySem.W.Frag} {S : List Addr} {H H' : Hp} {v : V} (m : Mine K S H v) (b : But S H H') : Mine K S H' v := by
  obtain ⟨d, h, f⟩ := m
  exact ⟨d, h.up b.cut, f⟩
theorem Mine.less {K : PySem.W.Frag} {S S' : List Addr} {H : Hp} {v : V} (m : Mine K S H v) (h : ∀ a ∈ S', a ∈ S) : Mine K S' H v := by
  obtain ⟨d, hd, f⟩ := m
  refine ⟨d, hd.up fun a o e => ?_, f⟩
  obtain ⟨n, e'⟩ := cut_some e
  rw [cut_out fun z => n (h a z)]
  exact e'
theorem Mine.more {K : PySem.W.Frag} {S : List Addr} {H : Hp} {v : V} {p : Addr} (m : Mine K S H v) (h : H p = none) (o : HO) : Mine K (p :: S) (upd H p o) v := by
  obtain ⟨d, hd, f⟩ := m
  refine ⟨d, hd.up fun a u e => ?_, f⟩
  obtain ⟨n, e'⟩ := cut_some e
  have ne : a ≠ p := ne_of_none e' h
  rw [cut_out (by simp only [List.mem_cons, not_or]; exact ⟨ne, n⟩), upd_ne ne]
  exact e'
theorem dp_more {K : PySem.W.Frag} {S : List Addr} {H : Hp} {v : V} {d : PyData} {p : Addr} (m : Dp K (cut S H) v d) (h : H p = none) (o : HO) : Dp K (cut (p :: S) (upd H p o)) v d := by
  refine m.up fun a u e => ?_
  obtain ⟨n, e'⟩ := cut_some e
  have ne : a ≠ p := ne_of_none e' h
  rw [cut_out (by simp only [List.mem_cons, not_or]; exact ⟨ne, n⟩), upd_ne ne]
  exact e'
abbrev qMade : Str := "_law_bl_made_right.<locals>.<lambda>"
def spMadeR (K : PySem.W.Frag) (TT : List (Addr × Str)) : Sp := fun vs H Q _ => ∃ (j : Addr) (v : V) (bs : List Bar), vs = [.ref j, v] ∧ Jar H j ∧ Tabs TT H ∧ Dp K (cut [j] H) v (barsD bs) ∧ BarsOk bs ∧ bs.length ≤ 13 ∧ ∀ H', Gs j TT H H' → Q (.bl true) H'
theorem oMade_ok {d : PyData} : (oMade d).ok := by
  unfold oMade
  cases h : faultD d with
  | none => exact True.intro
  | some p =>
    show p.1 ∈ cls4
    rcases fault_cls h with e | e <;> rw [e] <;> decide
section
variable {P : Program} {w : World} {K : PySem.W.Frag} {mg : Str → Option Value} {base : Heap} {cl : Str → Addr} {CR : Addr}
theorem ok_made_right {c cs PT : Addr} {TT : List (Addr × Str)} (D : DnL K mg "_law_bl_made_right" s_law_bl_made_right ["jar", "one"] c) (DS : DnL K mg "_law_bl_said" s_law_bl_said ["asked"] cs) (T : Bt mg) (TB : TabB base mg c PT) (hmT : (PT, qMade) ∈ TT) (hu : ∀ p ∈ TT, p.1 = PT → p.2 = qMade) (R : RefN K mg CR cl cls4)
    (f_law_bent : Cal P w K mg base 6 "_law_bent" (spBent K 3)) (f_law_mt_fault : Cal P w K mg base 3 "_law_mt_fault" (spFault K)) (f_law_like : Cal P w K mg base 7 "_law_like" (spLike K 5)) (f_made_bars : CalX P w K mg base 5 "made_bars" (spMade K cl)) :
    Cal P w K mg base 8 "_law_bl_made_right" (spMadeR K TT) := by
  obtain ⟨fs, oc, od, dV, kV, doc, pm, an, ct, osl, lk, hcd, hks, hms, hbs⟩ := DS.ex
  refine calL_of D sc_law_bl_made_right (fun vs H Q E h => ?_) (fun f A outer s H vs Q E hr h => ?_)
  · obtain ⟨j, v, bs, rfl, _⟩ := h
    rfl
  · obtain ⟨j, v, bs, rfl, J, hT, D1, ok, hl, q⟩ := h
    refine ⟨_, (pss_cons (ps_set (i := 2) sc_law_bl_made_right.nd rfl (Or.inl rfl) (pe_lst (pa_cons (pv 1) (pa_cons (LB.pe_c f_law_bent hr (by decide) (by rfl) (pa_cons (pv 0) (pa_cons (pv 1) pa_nil))) (pa_cons (LB.pe_c f_law_bent hr (by decide) (by rfl) (pa_cons (pv 0) (pa_cons (pv 1) pa_nil))) (pa_cons (LB.pe_c f_law_bent hr (by decide) (by rfl) (pa_cons (pv 0) (pa_cons (pe_op op_catA (pv 1) (pe_tup (pa_cons (pe_tup (pa_cons pe_int (pa_cons pe_int (pa_cons pe_int pa_nil)))) pa_nil))) pa_nil))) (pa_cons (pe_revT (pv 1)) pa_nil)))))))
      (pss_cons (ps_for PassesOwn.never rfl (pi_list (pe_lst (pa_cons (pe_tup (pa_cons pe_int (pa_cons pe_int (pa_cons (pe_un un_neg pe_int) pa_nil)))) (pa_cons (pe_tup (pa_cons pe_int (pa_cons pe_int (pa_cons (pe_un un_neg pe_int) pa_nil)))) (pa_cons (pe_tup (pa_cons pe_int (pa_cons pe_int (pa_cons pe_int pa_nil)))) (pa_cons (pe_tup (pa_cons pe_int (pa_cons pe_int (pa_cons (pe_un un_neg pe_int) pa_nil)))) (pa_cons (pe_tup (pa_cons pe_int (pa_cons pe_int (pa_cons pe_int pa_nil)))) (pa_cons (pe_tup (pa_cons pe_int (pa_cons pe_int (pa_cons pe_int pa_nil)))) pa_nil)))))))) (pg_name (i := 3) sc_law_bl_made_right.nd rfl (Or.inl rfl)) (pss_one (ps_expr (pe_bm PySem.F.plainAttrs_list PySem.F.slot_list_append PySem.F.type_list_append mt_append (pv 2) (pa_cons (pe_op op_catA (pv 1) (pe_tup (pa_cons (pv 3) pa_nil))) pa_nil)))))
      (pss_cons (ps_expr (pe_bm PySem.F.plainAttrs_list PySem.F.slot_list_extend PySem.F.type_list_extend mt_extend (pv 2) (pa_cons (pe_lst (pa_cons (pe_op op_repT (pe_tup (pa_cons (pe_tup (pa_cons pe_int (pa_cons pe_int (pa_cons pe_int pa_nil)))) pa_nil)) pe_int) (pa_cons (pe_op op_repT (pe_tup (pa_cons (pe_tup (pa_cons pe_int (pa_cons pe_int (pa_cons pe_int pa_nil)))) pa_nil)) pe_int) (pa_cons (pe_op op_repT (pe_tup (pa_cons pe_non pa_nil)) pe_int) (pa_cons pe_non (pa_cons pe_int (pa_cons pe_str pa_nil))))))) pa_nil)))
      (pss_cons (ps_for PassesOwn.never rfl (pi_list (pv 2)) (pg_name (i := 4) sc_law_bl_made_right.nd rfl (Or.inr rfl)) (pss_cons (ps_set (i := 5) sc_law_bl_made_right.nd rfl (Or.inl rfl) (LB.pe_c f_law_mt_fault hr (by decide) (by rfl) (pa_cons (pv 4) pa_nil)))
      (pss_one (ps_if (pt_not (pt_val (LB.pe_c f_law_like hr (by decide) (by rfl) (pa_cons (pe_lamcallN (T := TT) (TT := TTsaid K CR cl) (k := 5) (Ng := ["asked", "refused_one", "rows", "row"]) (t := fun E => tCall (spMade K cl) [] E (tCons (tVar 4) tNil)) (by rfl) hms hks lk hcd hbs sc_law_bl_said rfl (Or.inl rfl) (said_gives R.hR R.hB T.m_isinstance) TB rfl hmT hu hr (lamS_by (by show lamSB (defScope s_law_bl_made_right) _ = true; decide +kernel)) (by rfl) (fun _ _ _ _ _ => rfl)
            (fun A' outer' s' H' E' f' c' hr' => LB.pe_cE (L2N.takes_of rfl rfl rfl rfl) f_made_bars hr' (by decide) (by rfl) (pa_cons (pv 4) pa_nil))) (pa_cons (pe_ifExp (pt_cmp (pc_notN (pv 5)) rfl) (pv 5) (pe_tup (pa_cons pe_str (pa_cons (pv 4) pa_nil)))) pa_nil))))) (pss_one (ps_ret pe_bl)) pss_nil))))
      (pss_one (ps_ret pe_bl)))))), ?_⟩
    have h1 : 1 ≤ sizeLine := by decide
    have h2 : 2 ≤ sizeLine := by decide
    have h3 : 3 ≤ sizeLine := by decide
    have h5 : 5 ≤ sizeLine := by decide
    have h6 : 6 ≤ sizeLine := by decide
    have sm : smalls 3 (barsD bs) = true := small_bars ok.good (by omega)
    have fm : fits 4 (barsD bs) = true := fits_up _ _ (fits_small _ _ sm)
    obtain ⟨a, xs, rfl, hs, ha⟩ := dp_bars D1
    have hxl : xs.length = bs.length := by rw [ha.len, List.length_map]
    refine ⟨_, rfl, _, rfl, _, rfl, j, .ref a, barsD bs, rfl, J, D1, sm, fun v2 d2 H1 f2 J1 B1 D2 => ?_⟩
    refine ⟨_, rfl, _, rfl, j, .ref a, barsD bs, rfl, J1, D1.up B1.cut, sm, fun v3 d3 H2 f3 J2 B2 D3 => ?_⟩
    have B02 := B1.trans B2
    refine ⟨_, rfl, _, rfl, h3, fun t1 ht1 => ⟨h1, fun t2 ht2 => ?_⟩⟩
    have w1 := Ex.new (o := .tup [V.int 5, .int 3999999, .int 4000000]) ht1
    have w2 := Ex.new (o := .tup [V.ref t1]) ht2
    have JJ := J2.ex (w1.trans w2)
    have Dt1 : Dp K (cut [j] (upd H2 t1 (.tup [V.int 5, .int 3999999, .int 4000000]))) (.ref t1) (barD (5, 3999999, 4000000)) := bar_new (by simpa using J2.ne ht1) _ _ _
    have S0 : SqT K (cut [j] (upd (upd H2 t1 (.tup [V.int 5, .int 3999999, .int 4000000])) t2 (.tup [V.ref t1]))) a xs := ex_t ((B02.trans (But.of (w1.trans w2))).cut) hs
    refine cat_to JJ S0 (cut_new (J2.ex w1) ht2) (by show xs.length + 1 ≤ 100000; omega) fun p1 H3 e3 s3 => ?_
    have B23 : But [j] H2 H3 := But.of ((w1.trans w2).trans e3)
    have B03 := B02.trans B23
    have J3 := J2.ex ((w1.trans w2).trans e3)
    have A3 : DpAll K (cut [j] H3) (xs ++ [.ref t1]) ((bs ++ [((5, 3999999, 4000000) : Bar)]).map barD) := by
      rw [List.map_append]
      exact (ha.up B03.cut).app (.cons (Dt1.up (But.of (w2.trans e3)).cut) .nil)
    have sm2 : smalls 3 (barsD (bs ++ [((5, 3999999, 4000000) : Bar)])) = true := small_bars (fun x hx => (List.mem_append.mp hx).elim (ok.good x) fun z => by rw [List.mem_singleton.mp z]; decide) (by rw [List.length_append]; show bs.length + 1 ≤ 1000; omega)
    refine ⟨j, .ref p1, barsD (bs ++ [((5, 3999999, 4000000) : Bar)]), rfl, J3, .tup s3 A3, sm2, fun v4 d4 H4 f4 J4 B4 D4 => ?_⟩
    have B04 := B03.trans B4
    have S4 : SqT K (cut [j] H4) a xs := ex_t B04.cut hs
    refine ⟨_, rfl, a, xs, rfl, ex_t ex_cut S4, fun p5 hp5 => ⟨h5, fun L hL => ?_⟩⟩
    have w5 := Ex.new (o := .tup xs.reverse) hp5
    have m5 : Mine K [j] (upd H4 p5 (.tup xs.reverse)) (.ref p5) := by
      obtain ⟨es, h1', h2'⟩ := dp_sub (ha.up B04.cut) xs.reverse fun y hy => List.mem_reverse.mp hy
      refine ⟨_, dp_newS (S := [j]) (fun x hx => by rw [List.mem_singleton.mp hx]; exact J4.some) hp5 h1', fits_tupL (fun d hd => ?_) ?_⟩
      · obtain ⟨x, _, rfl⟩ := List.mem_map.mp (h2' d hd)
        rfl
      · have := h1'.len
        rw [List.length_reverse] at this
        omega
    have m1 : Mine K [j] (upd H4 p5 (.tup xs.reverse)) (.ref a) := ⟨_, D1.up (B04.trans (But.of w5)).cut, fm⟩
    have m2 : Mine K [j] (upd H4 p5 (.tup xs.reverse)) v2 := ⟨_, D2.up (((B2.trans B23).trans B4).trans (But.of w5)).cut, f2⟩
    have m3 : Mine K [j] (upd H4 p5 (.tup xs.reverse)) v3 := ⟨_, D3.up ((B23.trans B4).trans (But.of w5)).cut, f3⟩
    have m4 : Mine K [j] (upd H4 p5 (.tup xs.reverse)) v4 := ⟨_, D4.up (But.of w5).cut, f4⟩
    have J5 := J4.ex w5
    have B05 : But [j] H (upd H4 p5 (.tup xs.reverse)) := B04.trans (But.of w5)
    generalize upd H4 p5 (.tup xs.reverse) = H5 at m1 m2 m3 m4 m5 J5 B05 hL ⊢
    clear B03 B23 B02 A3 J3 Dt1 S0 JJ w1 w2 w5 S4 s3 e3 D2 D3 D4 B4 B1 B2 J1 J2 ht1 ht2 hp5
    have nLj : L ≠ j := J5.ne hL
    -- the list some at L
    have DA := dp_more (p := L) ((D1.up B05.cut)) hL (.lst [.ref a, v2, v3, v4, .ref p5])
    have M0 : ∀ v ∈ [V.ref a, v2, v3, v4, V.ref p5], Mine K [L, j] (upd H5 L (.lst [.ref a, v2, v3, v4, .ref p5])) v := fun v hv => by
      simp only [List.mem_cons, List.not_mem_nil, or_false] at hv
      rcases hv with rfl | rfl | rfl | rfl | rfl
      · exact m1.more hL _
      · exact m2.more hL _
      · exact m3.more hL _
      · exact m4.more hL _
      · exact m5.more hL _
    have J6 : Jar (upd H5 L (.lst [.ref a, v2, v3, v4, .ref p5])) j := J5.ex (Ex.new hL)
    have B56 : But [L, j] H5 (upd H5 L (.lst [.ref a, v2, v3, v4, .ref p5])) := But.of (Ex.new hL)
    have g6 : (upd H5 L (.lst [V.ref a, v2, v3, v4, .ref p5])) L = some (.lst [.ref a, v2, v3, v4, .ref p5]) := upd_same
    generalize upd H5 L (.lst [.ref a, v2, v3, v4, .ref p5]) = H6 at M0 J6 B56 g6 DA ⊢
    clear m1 m2 m3 m4 m5
    -- the six bars
    refine ⟨_, rfl, h3, fun u1 k1 => ⟨_, rfl, h3, fun u2 k2 => ⟨h3, fun u3 k3 => ⟨_, rfl, h3, fun u4 k4 => ⟨h3, fun u5 k5 => ⟨h3, fun u6 k6 => ⟨h6, fun LL hLL => ?_⟩⟩⟩⟩⟩⟩⟩
    have SN : ∀ {G : Hp}, Ex H6 G → ∀ x ∈ [L, j], G x ≠ none := fun {G} e x hx => by
      simp only [List.mem_cons, List.not_mem_nil, or_false] at hx
      rcases hx with rfl | rfl
      · rw [e _ _ g6]
        exact fun z => nomatch z
      · exact (J6.ex e).some
    have y1 := Ex.new (o := .tup [V.int 6, .int 0, .int (-1)]) k1
    have y2 := Ex.new (o := .tup [V.int 5, .int 4000000, .int (-1)]) k2
    have y3 := Ex.new (o := .tup [V.int 5, .int 3, .int 3]) k3
    have y4 := Ex.new (o := .tup [V.int 5, .int 0, .int (-2)]) k4
    have y5 := Ex.new (o := .tup [V.int 5, .int 0, .int 4000001]) k5
    have y6 := Ex.new (o := .tup [V.int 5, .int 4000000, .int 4000000]) k6
    have y7 := Ex.new (o := .lst [V.ref u1, .ref u2, .ref u3, .ref u4, .ref u5, .ref u6]) hLL
    have z2 := y1.trans y2
    have z3 := z2.trans y3
    have z4 := z3.trans y4
    have z5 := z4.trans y5
    have z6 := z5.trans y6
    have z7 := z6.trans y7
    have bars : ∀ u ∈ [V.ref u1, V.ref u2, V.ref u3, V.ref u4, V.ref u5, V.ref u6], ∃ x : Bar, Dp K (cut [L, j] (upd (upd (upd (upd (upd (upd (upd H6 u1 (.tup [V.int 6, .int 0, .int (-1)])) u2 (.tup [V.int 5, .int 4000000, .int (-1)])) u3 (.tup [V.int 5, .int 3, .int 3])) u4 (.tup [V.int 5, .int 0, .int (-2)])) u5 (.tup [V.int 5, .int 0, .int 4000001])) u6 (.tup [V.int 5, .int 4000000, .int 4000000])) LL (.lst [V.ref u1, .ref u2, .ref u3, .ref u4, .ref u5, .ref u6]))) u (barD x) := fun u hu => by
      simp only [List.mem_cons, List.not_mem_nil, or_false] at hu
      rcases hu with rfl | rfl | rfl | rfl | rfl | rfl
      · exact ⟨(6, 0, -1), (bar_new (fun z => SN (Ex.refl H6) u1 z k1) _ _ _).up (But.of (y2.trans (y3.trans (y4.trans (y5.trans (y6.trans y7)))))).cut⟩
      · exact ⟨(5, 4000000, -1), (bar_new (fun z => SN y1 u2 z k2) _ _ _).up (But.of (y3.trans (y4.trans (y5.trans (y6.trans y7))))).cut⟩
      · exact ⟨(5, 3, 3), (bar_new (fun z => SN z2 u3 z k3) _ _ _).up (But.of (y4.trans (y5.trans (y6.trans y7)))).cut⟩
      · exact ⟨(5, 0, -2), (bar_new (fun z => SN z3 u4 z k4) _ _ _).up (But.of (y5.trans (y6.trans y7))).cut⟩
      · exact ⟨(5, 0, 4000001), (bar_new (fun z => SN z4 u5 z k5) _ _ _).up (But.of (y6.trans y7)).cut⟩
      · exact ⟨(5, 4000000, 4000000), (bar_new (fun z => SN z5 u6 z k6) _ _ _).up (But.of y7).cut⟩
    have J7 := J6.ex z7
    have g7 := z7 _ _ g6
    have B67 : But [L, j] H6 _ := But.of z7
    have gLL : (upd (upd (upd (upd (upd (upd (upd H6 u1 (.tup [V.int 6, .int 0, .int (-1)])) u2 (.tup [V.int 5, .int 4000000, .int (-1)])) u3 (.tup [V.int 5, .int 3, .int 3])) u4 (.tup [V.int 5, .int 0, .int (-2)])) u5 (.tup [V.int 5, .int 0, .int 4000001])) u6 (.tup [V.int 5, .int 4000000, .int 4000000])) LL (.lst [V.ref u1, .ref u2, .ref u3, .ref u4, .ref u5, .ref u6])) LL = some (.lst [V.ref u1, .ref u2, .ref u3, .ref u4, .ref u5, .ref u6]) := upd_same
    have nLL : LL ≠ L := fun e => SN z6 L (by simp) (by rw [← e]; exact hLL)
    have nLLj : LL ≠ j := fun e => SN z6 j (by simp) (by rw [← e]; exact hLL)
    clear y1 y2 y3 y4 y5 y6 y7 z2 z3 z4 z5 z6 z7 SN
    have hus : ([V.ref u1, V.ref u2, V.ref u3, V.ref u4, V.ref u5, V.ref u6] : List V).length = 6 := rfl
    generalize hG7 : upd (upd (upd (upd (upd (upd (upd H6 u1 (.tup [V.int 6, .int 0, .int (-1)])) u2 (.tup [V.int 5, .int 4000000, .int (-1)])) u3 (.tup [V.int 5, .int 3, .int 3])) u4 (.tup [V.int 5, .int 0, .int (-2)])) u5 (.tup [V.int 5, .int 0, .int 4000001])) u6 (.tup [V.int 5, .int 4000000, .int 4000000])) LL (.lst [V.ref u1, .ref u2, .ref u3, .ref u4, .ref u5, .ref u6]) = H7 at bars J7 g7 B67 gLL ⊢
    clear hG7 k1 k2 k3 k4 k5 k6 hLL
    generalize ([V.ref u1, V.ref u2, V.ref u3, V.ref u4, V.ref u5, V.ref u6] : List V) = us at bars gLL hus ⊢
    refine ⟨LL, rfl, ⟨_, Or.inl (Or.inl gLL)⟩, for_list (K := K) (a := LL) (xs := us) (fun i σ H' => ∃ w, σ = [some (V.ref j), some (V.ref a), some (V.ref L), w, none, none] ∧ Jar H' j ∧ But [L, j] H7 H' ∧ ∃ items, H' L = some (.lst items) ∧ items.length ≤ 5 + i ∧ ∀ v ∈ items, Mine K [L, j] H' v)
      ⟨_, rfl, J7, But.refl, _, g7, by show 5 ≤ 5 + 0; omega, fun v hv => (M0 v hv).up B67⟩ (fun i σ H' _ ⟨_, _, _, b, _⟩ => Or.inl (Or.inl (b _ _ (by simp [nLL, nLLj]) gLL))) ?_ ?_⟩
    · rintro i x σ H' hx ⟨w, rfl, J', b', items, gL, il, ms⟩
      obtain ⟨b, hb⟩ := bars x (List.mem_of_getElem? hx)
      have hi6 : i < 6 := by
        have := (List.getElem?_eq_some_iff.mp hx).1
        omega
      have SN' : ∀ {G : Hp}, Ex H' G → ∀ y ∈ [L, j], G y ≠ none := fun {G} e y hy => by
        simp only [List.mem_cons, List.not_mem_nil, or_false] at hy
        rcases hy with rfl | rfl
        · rw [e _ _ gL]
          exact fun z => nomatch z
        · exact (J'.ex e).some
      refine ⟨_, rfl, Or.inl ⟨rfl, _, Or.inl (Or.inl gL)⟩, _, rfl, _, rfl, h1, fun t ht => ?_⟩
      have yt := Ex.new (o := .tup [x]) ht
      have B07 : But [L, j] H5 H' := (B56.trans B67).trans b'
      have dA : Dp K (cut [L, j] (upd H' t (.tup [x]))) (.ref a) (barsD bs) := DA.up ((B67.trans b').trans (But.of yt)).cut
      obtain ⟨a', xs', ea, hs', ha'⟩ := dp_bars dA
      cases ea
      have hb' := (hb.up b'.cut).up (But.of (S := [L, j]) yt).cut
      have xl' : xs'.length = bs.length := by rw [ha'.len, List.length_map]
      refine cat_S (S := [L, j]) (SN' yt) hs' (Or.inl (Or.inl (by rw [cut_out (fun z => SN' (Ex.refl H') t z ht), upd_same]))) (by show xs'.length + 1 ≤ 100000; omega) fun p G e sp => ?_
      have gLG := e _ _ (yt _ _ gL)
      refine ⟨L, items, _, rfl, rfl, gLG, sz_lt (by omega), _, rfl, (J'.ex (yt.trans e)).put nLj, (b'.trans (But.of (yt.trans e))).trans (But.put (by simp)), _, upd_same, ?_, fun v hv => ?_⟩
      · rw [List.length_append]
        show items.length + 1 ≤ 5 + (i + 1)
        omega
      · have bp : But [L, j] G (upd G L (.lst (items ++ [V.ref p]))) := But.put (by simp)
        rcases List.mem_append.mp hv with h | h
        · exact (ms v h).up ((But.of (yt.trans e)).trans bp)
        · rw [List.mem_singleton.mp h]
          refine Mine.up ?_ bp
          refine ⟨_, .tup sp ((ha'.app (.cons hb' .nil)).up (But.of e).cut), ?_⟩
          refine fits_tupL (fun d hd => ?_) ?_
          · rcases List.mem_append.mp hd with h | h
            · obtain ⟨x, _, rfl⟩ := List.mem_map.mp h
              rfl
            · rw [List.mem_singleton.mp h]
              rfl
          · rw [List.length_append, List.length_map]
            show bs.length + 1 ≤ 100000
            omega
    · rintro σ H' ⟨w, rfl, J', b', items, gL, il, ms⟩
      have il' : items.length ≤ 11 := by omega
      refine ⟨_, rfl, Or.inl ⟨rfl, _, Or.inl (Or.inl gL)⟩, h3, fun c1 k1 => ⟨h1, fun c2 k2 => ⟨c2, 80, [.ref c1], rfl, rfl, Or.inl (Or.inl upd_same), by simp, by decide, by decide, by simp, fun c3 k3 => ?_⟩⟩⟩
      have y1 := Ex.new (o := .tup [V.int 0, .int 1, .int 2]) k1
      have y2 := Ex.new (o := .tup [V.ref c1]) k2
      have y3 := Ex.new (o := .tup (List.replicate (80 : Int).toNat [V.ref c1]).flatten) k3
      refine ⟨h3, fun c4 k4 => ⟨h1, fun c5 k5 => ⟨c5, 81, [.ref c4], rfl, rfl, Or.inl (Or.inl upd_same), by simp, by decide, by decide, by simp, fun c6 k6 => ?_⟩⟩⟩
      have y4 := Ex.new (o := .tup [V.int 0, .int 1, .int 2]) k4
      have y5 := Ex.new (o := .tup [V.ref c4]) k5
      have y6 := Ex.new (o := .tup (List.replicate (81 : Int).toNat [V.ref c4]).flatten) k6
      refine ⟨h1, fun c7 k7 => ⟨c7, 81, [.non], rfl, rfl, Or.inl (Or.inl upd_same), by simp, by decide, by decide, by simp, fun c8 k8 => ⟨h6, fun M kM => ?_⟩⟩⟩
      have y7 := Ex.new (o := .tup [V.non]) k7
      have y8 := Ex.new (o := .tup (List.replicate (81 : Int).toNat [V.non]).flatten) k8
      have yM := Ex.new (o := .lst [V.ref c3, .ref c6, .ref c8, .non, .int 0, .str "bars"]) kM
      have SN' : ∀ {G : Hp}, Ex H' G → ∀ y ∈ [L, j], G y ≠ none := fun {G} e y hy => by
        simp only [List.mem_cons, List.not_mem_nil, or_false] at hy
        rcases hy with rfl | rfl
        · rw [e _ _ gL]
          exact fun z => nomatch z
        · exact (J'.ex e).some
      have z2 := y1.trans y2
      have z3 := z2.trans y3
      have z4 := z3.trans y4
      have z5 := z4.trans y5
      have z6 := z5.trans y6
      have z7 := z6.trans y7
      have z8 := z7.trans y8
      have z9 := z8.trans yM
      have d1 := bar_newS (K := K) (SN' (Ex.refl H')) k1 0 1 2
      have d3 := dp_newS (S := [L, j]) (SN' z2) k3 (dpAll_rep (d1.up (But.of y2).cut) 80)
      have d4 := bar_newS (K := K) (SN' z3) k4 0 1 2
      have d6 := dp_newS (S := [L, j]) (SN' z5) k6 (dpAll_rep (d4.up (But.of y5).cut) 81)
      have d8 := dp_newS (K := K) (S := [L, j]) (SN' z7) k8 (dpAll_rep (K := K) .non 81)
      have e3 := d3.up (But.of (S := [L, j]) (y4.trans (y5.trans (y6.trans (y7.trans (y8.trans yM)))))).cut
      have e6 := d6.up (But.of (S := [L, j]) (y7.trans (y8.trans yM))).cut
      have e8 := d8.up (But.of (S := [L, j]) yM).cut
      have gL9 := z9 _ _ gL
      have ms9 : ∀ v ∈ items ++ [V.ref c3, .ref c6, .ref c8, .non, .int 0, .str "bars"], Mine K [L, j] _ v := fun v hv => by
        rcases List.mem_append.mp hv with h | h
        · exact (ms v h).up (But.of z9)
        · simp only [List.mem_cons, List.not_mem_nil, or_false] at h
          rcases h with rfl | rfl | rfl | rfl | rfl | rfl
          · exact ⟨_, e3, by decide +kernel⟩
          · exact ⟨_, e6, by decide +kernel⟩
          · exact ⟨_, e8, by decide +kernel⟩
          · exact ⟨_, .non, rfl⟩
          · exact ⟨_, .int _, rfl⟩
          · exact ⟨_, .str _, rfl⟩
      have J9 := J'.ex z9
      have B9 : But [L, j] H' _ := But.of z9
      clear y1 y2 y3 y4 y5 y6 y7 y8 yM z2 z3 z4 z5 z6 z7 z8 z9 d1 d3 d4 d6 d8 e3 e6 e8 SN'
      refine ⟨L, M, items, _, rfl, rfl, gL9, upd_same, sz_lt (by show items.length + 6 ≤ _; omega), ?_⟩
      generalize upd (upd (upd (upd (upd (upd (upd (upd (upd H' c1 _) c2 _) c3 _) c4 _) c5 _) c6 _) c7 _) c8 _) M _ = H9 at ms9 J9 B9 gL9 ⊢
      have bp : But [L, j] H9 (upd H9 L (.lst (items ++ [V.ref c3, .ref c6, .ref c8, .non, .int 0, .str "bars"]))) := But.put (by simp)
      have J10 := J9.put (o := .lst (items ++ [V.ref c3, .ref c6, .ref c8, .non, .int 0, .str "bars"])) nLj
      have g10 : (upd H9 L (.lst (items ++ [V.ref c3, .ref c6, .ref c8, .non, .int 0, .str "bars"]))) L = _ := upd_same
      have ms10 : ∀ v ∈ items ++ [V.ref c3, .ref c6, .ref c8, .non, .int 0, .str "bars"], Mine K [j] (upd H9 L (.lst (items ++ [V.ref c3, .ref c6, .ref c8, .non, .int 0, .str "bars"]))) v := fun v hv => ((ms9 v hv).up bp).less (by simp)
      have B010 : But [j] H5 (upd H9 L (.lst (items ++ [V.ref c3, .ref c6, .ref c8, .non, .int 0, .str "bars"]))) := But.drop ((((B56.trans B67).trans b').trans B9).trans bp) hL
      have hlen : (items ++ [V.ref c3, .ref c6, .ref c8, .non, .int 0, .str "bars"]).length ≤ 20 := by
        rw [List.length_append]
        show items.length + 6 ≤ 20
        omega
      generalize upd H9 L (.lst (items ++ [V.ref c3, .ref c6, .ref c8, .non, .int 0, .str "bars"])) = HA at J10 g10 ms10 B010 ⊢
      generalize items ++ [V.ref c3, .ref c6, .ref c8, .non, .int 0, .str "bars"] = things at g10 ms10 hlen ⊢
      have GA := (Gs.here J hT).but J10 (B05.trans B010)
      clear B9 bp ms9 J9 gL9 kM k1 k2 k3 k4 k5 k6 k7 k8
      refine ⟨_, rfl, L, rfl, ⟨_, Or.inl (Or.inl g10)⟩, for_list (K := K) (a := L) (xs := things) (fun i σ H' => ∃ w4 w5, σ = [some (V.ref j), some (V.ref a), some (V.ref L), w, w4, w5] ∧ Gs j TT HA H')
        ⟨_, _, rfl, Gs.here J10 GA.tab⟩ (fun i σ H' _ ⟨_, _, _, g⟩ => Or.inl (Or.inl (g.bn _ _ nLj g10 (fun ps z => by cases z)))) ?_ ?_⟩
      · rintro i x σ H' hx ⟨w4, w5, rfl, g⟩
        obtain ⟨d, hd0, fd⟩ := ms10 x (List.mem_of_getElem? hx)
        have hd := (g.dp hd0).up ex_cut
        have fin : ∀ {G : Hp} {w5 : Option V} , Gs j TT HA G → (∃ w4 w5', [some (V.ref j), some (V.ref a), some (V.ref L), w, some x, w5] = [some (V.ref j), some (V.ref a), some (V.ref L), w, w4, w5'] ∧ Gs j TT HA G) := fun h => ⟨_, _, rfl, h⟩
        refine ⟨_, rfl, x, d, rfl, hd, fun hnone H4 e4 => ?_, fun p hp t H4 e4 ht => ?_⟩
        · have g4 := g.ex e4
          have ho : oMade d = .told d := by
            unfold oMade
            rw [hnone]
          refine row_out R g4.tab (oMade d) oMade_ok (fun G eG Q' E' h => ⟨_, rfl, x, d, rfl, dp_extN eG _ _ (hd.up e4), h⟩) (fun p H5 eN T5 _ dp => ?_)
          have g5 := g4.extN eN T5
          refine ⟨_, rfl, _, rfl, iteF ⟨_, rfl, h2, fun t ht => ?_⟩⟩
          have et := Ex.new (o := .tup [.str "told", x]) ht
          rw [ho] at dp
          refine ⟨_, _, _, rfl, dp.up et, .tup (Or.inl (Or.inl upd_same)) (.cons (.str _) (.cons ((dp_extN eN _ _ (hd.up e4)).up et) .nil)), ?_, fun H6 e6 => ⟨_, rfl, iteF (fin (g5.ex (et.trans e6)))⟩⟩
          show (decide _ && (true && (fits 4 d && true))) = true
          rw [fd]
          rfl
        · have g4 := g.ex e4
          have ho : oMade d = .bad p.1 (.int p.2) := by
            unfold oMade
            rw [hp]
          refine row_out R g4.tab (oMade d) oMade_ok (fun G eG Q' E' h => ⟨_, rfl, x, d, rfl, dp_extN eG _ _ (hd.up e4), h⟩) (fun p' H5 eN T5 _ dp => ?_)
          have g5 := g4.extN eN T5
          refine ⟨_, rfl, _, rfl, iteT ⟨_, rfl, ?_⟩⟩
          rw [ho] at dp
          have ht5 := eN _ _ ht (fun ps z => by cases z)
          exact ⟨_, _, _, rfl, dp, .tup (Or.inl (Or.inl ht5)) (.cons (.str _) (.cons (.int _) .nil)), rfl, fun H6 e6 => ⟨_, rfl, iteF (fin (g5.ex e6))⟩⟩
      · rintro σ H' ⟨w4, w5, rfl, g⟩
        exact q H' (GA.sub g)
end
end K22
end
section
set_option pp.maxSteps 400
set_option Elab.async false
set_option linter.all false
set_option maxRecDepth 100000
set_option maxHeartbeats 4000000
namespace K22
open PySem PySem.Spec PyProof.Rows L2 LB LamX Evl
abbrev qCounts : Str := "_law_bl_counts_right.<locals>.<lambda>"
def spCountsR (K : PySem.W.Frag) (TT : List (Addr × Str)) : Sp := fun vs H Q _ => ∃ (j : Addr) (v : V) (bs : List Bar) (top : Int), vs = [.ref j, v, .int top] ∧ Jar H j ∧ Tabs TT H ∧ Dp K (cut [j] H) v (barsD bs) ∧ BarsOk bs ∧ bs.length ≤ 13 ∧ 8 ≤ top ∧ top ≤ 4000000 ∧ ∀ H', Gs j TT H H' → Q (.bl true) H'
theorem perm_two {a b : Int} {l : List Int} (h : l.Perm [a, b]) (hp : l.Pairwise (· ≤ ·)) : ∃ x y, l = [x, y] ∧ x ≤ y ∧ (x = a ∨ x = b) ∧ (y = a ∨ y = b) := by
  have hl := h.length_eq
  match l, hl with
  | [x, y], _ =>
    have m1 := h.mem_iff.mp (show x ∈ [x, y] by simp)
    have m2 := h.mem_iff.mp (show y ∈ [x, y] by simp)
    simp only [List.mem_cons, List.not_mem_nil, or_false] at m1 m2
    rw [List.pairwise_cons] at hp
    exact ⟨x, y, rfl, hp.1 y (by simp), m1, m2⟩
theorem whole_in {i lo hi : Int} (h : lo ≤ i ∧ i ≤ hi) : wholeB (.int i) lo hi = true := by
  unfold wholeB
  simp only [Bool.and_eq_true, decide_eq_true_eq]
  exact h
theorem oBars_ok {bs : List Bar} (ok : BarsOk bs) (k : List Bar → Out) : oBars (barsD bs) k = k bs := by
  unfold oBars
  rw [fault_ok ok, barsOf_bars ok.good]
theorem count_told {bs : List Bar} {k s t : Int} (ok : BarsOk bs) (hk : 0 ≤ k ∧ k ≤ 5) (hs : 0 ≤ s ∧ s ≤ 4000000) (ht : s ≤ t ∧ t ≤ 4000000) : oCount (barsD bs) (.int k) (.int s) (.int t) = .told (.int ((bs.filter (onB k s t)).length : Nat)) := by
  unfold oCount
  rw [oBars_ok ok]
  unfold oMany
  rw [whole_in hk, whole_in hs, whole_in (show intOf (.int s) ≤ t ∧ t ≤ 4000000 from ht)]
  rfl

section
variable {P : Program} {w : World} {K : PySem.W.Frag} {mg : Str → Option Value} {base : Heap} {cl : Str → Addr} {CR : Addr}
theorem ok_counts_right {c cs PT : Addr} {TT : List (Addr × Str)} (D : DnL K mg "_law_bl_counts_right" s_law_bl_counts_right ["jar", "one", "top"] c) (DS : DnL K mg "_law_bl_said" s_law_bl_said ["asked"] cs) (T : Bt mg) (TB : TabB base mg c PT) (hmT : (PT, qCounts) ∈ TT) (hu : ∀ p ∈ TT, p.1 = PT → p.2 = qCounts) (R : RefN K mg CR cl cls4)
    (f_law_one : Cal P w K mg base 2 "_law_one" (spOne K)) (f_law_take : Cal P w K mg base 1 "_law_take" spTake) (f_law_like : Cal P w K mg base 6 "_law_like" (spLike K 4)) (f_count_on : CalX P w K mg base 5 "count_on" (spCount K cl)) (f_law_mt_there : Cal P w K mg base 1 "_law_mt_there" (spThere K))
    (f_law_mt_is_bar : Cal P w K mg base 2 "_law_mt_is_bar" (spIsBarL K)) (f_shifted : CalX P w K mg base 5 "shifted" (spShift K cl)) :
    Cal P w K mg base 8 "_law_bl_counts_right" (spCountsR K TT) := by
  obtain ⟨fs, oc, od, dV, kV, doc, pm, an, ct, osl, lk, hcd, hks, hms, hbs⟩ := DS.ex
  refine calL_of D sc_law_bl_counts_right (fun vs H Q E h => ?_) (fun f A outer s H vs Q E hr h => ?_)
  · obtain ⟨j, v, bs, top, rfl, _⟩ := h
    rfl
  · obtain ⟨j, v, bs, top, rfl, J, hT, D1, ok, hl, t8, t4, q⟩ := h
    have hun : (A.deeper (envOfC "_law_bl_counts_right" (defScope s_law_bl_counts_right) s.heap.objs.size f (.ref c))).units + 16 < cLine := by
      have := hr.un
      omega
    refine ⟨_, (pss_cons (ps_set (i := 3) sc_law_bl_counts_right.nd rfl (Or.inl rfl) (pe_op op_cat (pe_op op_cat (pe_lst (pa_cons pe_int (pa_cons pe_int pa_nil))) (pe_lc (own := [("bar", 4)]) rfl sc_law_bl_counts_right.nd (pi_tup (pv 1)) (blkOk_by (N := ["jar", "one", "top", "dates_now", "bar", "turn", "ends", "s", "t", "k", "x", "later", "b", "d", "bad", "at", "due"]) (sc := defScope s_law_bl_counts_right) (by decide +kernel)) (fun _ _ _ _ _ => (pg_name (i := 4) sc_law_bl_counts_right.nd rfl (Or.inl rfl))) (fun _ _ _ _ _ => pts_nil) (fun _ _ _ _ _ => (pe_callTy call_int1 (by rfl) T.m_int (by decide +kernel) (pa_cons (pe_ix (ixK_tup (K := K) rfl) (pv 4) pe_int (fun _ _ => rfl)) pa_nil))))) (pe_lc (own := [("bar", 4)]) rfl sc_law_bl_counts_right.nd (pi_tup (pv 1)) (blkOk_by (N := ["jar", "one", "top", "dates_now", "bar", "turn", "ends", "s", "t", "k", "x", "later", "b", "d", "bad", "at", "due"]) (sc := defScope s_law_bl_counts_right) (by decide +kernel)) (fun _ _ _ _ _ => (pg_name (i := 4) sc_law_bl_counts_right.nd rfl (Or.inl rfl))) (fun _ _ _ _ _ => (pts_one (pt_cmpR op_gt (pe_ix (ixK_tup (K := K) rfl) (pv 4) pe_int (fun _ _ => rfl)) pe_int (nomark _)))) (fun _ _ _ _ _ => (pe_callTy call_int1 (by rfl) T.m_int (by decide +kernel) (pa_cons (pe_ix (ixK_tup (K := K) rfl) (pv 4) pe_int (fun _ _ => rfl)) pa_nil))))))
      (pss_cons (ps_for PassesOwn.never rfl (pi_range1 (by rfl) T.m_range (pa_cons pe_int pa_nil)) (pg_name (i := 5) sc_law_bl_counts_right.nd rfl (Or.inl rfl)) (pss_cons (ps_set (i := 6) sc_law_bl_counts_right.nd rfl (Or.inl rfl) (pe_callB cr_sorted (by rfl) T.m_sorted (by decide +kernel) (pa_cons (pe_lst (pa_cons (pe_callTy call_int1 (by rfl) T.m_int (by decide +kernel) (pa_cons (LB.pe_c f_law_one hr (by decide) (by rfl) (pa_cons (pv 0) (pa_cons (pv 3) pa_nil))) pa_nil)) (pa_cons (pe_callTy call_int1 (by rfl) T.m_int (by decide +kernel) (pa_cons (LB.pe_c f_law_one hr (by decide) (by rfl) (pa_cons (pv 0) (pa_cons (pv 3) pa_nil))) pa_nil)) pa_nil))) pa_nil)))
      (pss_cons (ps_par (i := 7) (j := 8) (by rfl) sc_law_bl_counts_right.nd rfl rfl (by decide) rfl rfl (pa_cons (pe_ix ix_list (pv 6) pe_int (fun _ _ => rfl)) (pa_cons (pe_callB (call_min2 rfl) (by rfl) T.m_min (by decide +kernel) (pa_cons pe_int (pa_cons (pe_op op_add (pe_callTy call_int1 (by rfl) T.m_int (by decide +kernel) (pa_cons (pe_ix ix_list (pv 6) pe_int (fun _ _ => rfl)) pa_nil)) (LB.pe_c f_law_take hr (by decide) (by rfl) (pa_cons (pv 0) (pa_cons pe_int pa_nil)))) pa_nil))) pa_nil)) (by rfl))
      (pss_cons (ps_set (i := 9) sc_law_bl_counts_right.nd rfl (Or.inl rfl) (pe_ifExp (PW.pt (pw_or (pt_cmpR (op_eqP hun) (pv 1) (pe_tup pa_nil) (nomark _)) (pw_or1 (pt_cmpR op_eq (LB.pe_c f_law_take hr (by decide) (by rfl) (pa_cons (pv 0) (pa_cons pe_int pa_nil))) pe_int (nomark _))))) (LB.pe_c f_law_take hr (by decide) (by rfl) (pa_cons (pv 0) (pa_cons pe_int pa_nil))) (pe_ix ix_tup (LB.pe_c f_law_one hr (by decide) (by rfl) (pa_cons (pv 0) (pa_cons (pv 1) pa_nil))) pe_int (fun _ _ => rfl))))
      (pss_one (ps_if (pt_not (pt_val (LB.pe_c f_law_like hr (by decide) (by rfl) (pa_cons (LB.pe_cx f_count_on hr (by decide) (by rfl) (pa_cons (pv 1) (pa_cons (pv 9) (pa_cons (pv 7) (pa_cons (pv 8) pa_nil))))) (pa_cons (LB.pe_c f_law_mt_there hr (by decide) (by rfl) (pa_cons (pv 1) (pa_cons (pv 9) (pa_cons (pv 7) (pa_cons (pv 8) pa_nil))))) pa_nil))))) (pss_one (ps_ret pe_bl)) pss_nil))))))
      (pss_cons (ps_set (i := 10) sc_law_bl_counts_right.nd rfl (Or.inr rfl) (LB.pe_c f_law_one hr (by decide) (by rfl) (pa_cons (pv 0) (pa_cons (pe_lst (pa_cons pe_int (pa_cons pe_int (pa_cons pe_int (pa_cons (pe_op op_sub pe_int (pv 2)) (pa_cons pe_int (pa_cons pe_int pa_nil))))))) pa_nil))))
      (pss_cons (ps_set (i := 11) sc_law_bl_counts_right.nd rfl (Or.inr rfl) (pe_callTy call_tuple_of (by rfl) T.m_tuple (by decide +kernel) (pa_cons (pe_lc (own := [("k", 9), ("b", 12), ("d", 13)]) rfl sc_law_bl_counts_right.nd (pi_tup (pv 1)) (blkOk_by (N := ["jar", "one", "top", "dates_now", "bar", "turn", "ends", "s", "t", "k", "x", "later", "b", "d", "bad", "at", "due"]) (sc := defScope s_law_bl_counts_right) (by decide +kernel)) (fun _ _ _ _ _ => (LB.pg_tupK (K := K) 3 rfl rfl (pgs_cons (pg_name (i := 9) sc_law_bl_counts_right.nd rfl (Or.inl rfl)) (pgs_cons (pg_name (i := 12) sc_law_bl_counts_right.nd rfl (Or.inl rfl)) (pgs_cons (pg_name (i := 13) sc_law_bl_counts_right.nd rfl (Or.inl rfl)) pgs_nil))))) (fun _ _ _ _ _ => pts_nil) (fun _ _ _ _ _ => (pe_tup (pa_cons (pv 9) (pa_cons (pe_op op_add (pv 12) (pv 10)) (pa_cons (pe_ifExp (pt_cmpR op_ne (pv 13) (pe_un un_neg pe_int) (nomark _)) (pe_op op_add (pv 13) (pv 10)) (pe_un un_neg pe_int)) pa_nil)))))) pa_nil)))
      (pss_cons (ps_setLc (i := 14) rfl sc_law_bl_counts_right.nd rfl rfl (sw_true rfl rfl rfl (by decide +kernel)) (own := [("at", 15)]) (pi_range1 (by rfl) T.m_range (pa_cons (pe_callB call_len_seq (by rfl) T.m_len PySem.boot_len (pa_cons (pv 1) pa_nil)) pa_nil)) (blkOk_by (N := ["jar", "one", "top", "dates_now", "bar", "turn", "ends", "s", "t", "k", "x", "later", "b", "d", "bad", "at", "due"]) (sc := defScope s_law_bl_counts_right) (by decide +kernel)) (fun _ _ _ _ _ => (pg_name (i := 15) sc_law_bl_counts_right.nd rfl (Or.inl rfl))) (fun _ _ _ _ _ => (pts_one (pt_not (pt_val (LB.pe_c f_law_mt_is_bar hr (by decide) (by rfl) (pa_cons (pe_ix (ixK_tup (K := K) rfl) (pv 11) (pv 15) (fun _ _ => rfl)) pa_nil)))))) (fun _ _ _ _ _ => (pv 15)))
      (pss_cons (ps_set (i := 16) sc_law_bl_counts_right.nd rfl (Or.inl rfl) (pe_ifExp (pt_cmpR (op_eqP hun) (pv 14) (pe_lst pa_nil) (nomark _)) (pe_tup (pa_cons pe_str (pa_cons (pv 11) pa_nil))) (pe_tup (pa_cons pe_str (pa_cons (pe_ix ix_list (pv 14) pe_int (fun _ _ => rfl)) pa_nil)))))
      (pss_one (ps_ret (LB.pe_c f_law_like hr (by decide) (by rfl) (pa_cons (pe_lamcallN (T := TT) (TT := TTsaid K CR cl) (k := 5) (Ng := ["asked", "refused_one", "rows", "row"]) (t := fun E => tCall (spShift K cl) [] E (tCons (tVar 1) (tCons (tVar 10) tNil))) (by rfl) hms hks lk hcd hbs sc_law_bl_said rfl (Or.inl rfl) (said_gives R.hR R.hB T.m_isinstance) TB rfl hmT hu hr (lamS_by (by show lamSB (defScope s_law_bl_counts_right) _ = true; decide +kernel)) (by rfl) (fun _ _ _ _ _ => rfl)
            (fun A' outer' s' H' E' f' c' hr' => LB.pe_cE (L2N.takes_of rfl rfl rfl rfl) f_shifted hr' (by decide) (by rfl) (pa_cons (pv 1) (pa_cons (pv 10) pa_nil)))) (pa_cons (pv 16) pa_nil))))))))))), ?_⟩
    have h2 : 2 ≤ sizeLine := by decide
    have h3 : 3 ≤ sizeLine := by decide
    have h6 : 6 ≤ sizeLine := by decide
    obtain ⟨a, xs, rfl, hs, ha⟩ := dp_bars D1
    have hxl : xs.length = bs.length := by rw [ha.len, List.length_map]
    have bound : ∀ b ∈ bs, 0 ≤ b.1 ∧ b.1 ≤ 5 ∧ 0 ≤ b.2.1 ∧ b.2.1 ≤ 4000000 ∧ (b.2.2 = -1 ∨ (b.2.1 < b.2.2 ∧ b.2.2 ≤ 4000000)) := fun b hb => of_decide_eq_true (ok.good b hb)
    -- dates_now
    refine ⟨h2, fun L0 hL0 => ?_⟩
    have e0 := Ex.new (o := .lst [V.int 0, .int 4000000]) hL0
    have gL0 : (upd H L0 (.lst [V.int 0, .int 4000000])) L0 = some (.lst ([0, 4000000].map V.int)) := upd_same
    generalize upd H L0 (.lst [V.int 0, .int 4000000]) = H0 at e0 gL0 ⊢
    have hs0 : SqT K H0 a xs := ex_t (ex_cut.trans e0) hs
    have ha0 : DpAll K H0 xs (bs.map barD) := ha.up (ex_cut.trans e0)
    refine ⟨_, rfl, a, rfl, ⟨xs, hs0⟩, fun Da hDa => lc_tup (K := K) (a := a) (xs := xs) (fun i G => Ex H0 G ∧ ∃ ns : List Int, G Da = some (.lst (ns.map V.int)) ∧ ns.length ≤ i ∧ ∀ n ∈ ns, 0 ≤ n ∧ n ≤ 4000000) ⟨Ex.new hDa, [], upd_same, Nat.le_refl _, fun n h => by cases h⟩ (fun i G _ ⟨e, _⟩ => ex_t e hs0) ?_ ?_⟩
    · rintro i x G hx ⟨e, ns, hns, nl, nb⟩
      obtain ⟨b, u, hb, rfl, hst, _⟩ := dp_bar_get ha0 hx
      obtain ⟨a0, a1, a2⟩ := ix3 b
      have hi := (List.getElem?_eq_some_iff.mp hb).1
      have bb := bound b (List.mem_of_getElem? hb)
      refine ⟨rfl, ?_⟩
      unfold tYes
      dsimp only
      rw [if_pos rfl]
      refine ⟨_, rfl, u, _, 1, _, rfl, rfl, ex_t e hst, a1, Or.inl ⟨_, rfl, _, hns, sz_lt (by rw [List.length_map]; omega), e.mut (p := Da) hDa, ns ++ [b.2.1], by rw [upd_same, List.map_append]; rfl, ?_, fun n hn => ?_⟩⟩
      · rw [List.length_append]
        show ns.length + 1 ≤ i + 1
        omega
      · rcases List.mem_append.mp hn with h | h
        · exact nb n h
        · rw [List.mem_singleton.mp h]
          omega
    rintro G1 ⟨e1, ns1, hns1, nl1, nb1⟩
    refine ⟨L0, Da, _, _, rfl, rfl, e1 _ _ gL0, hns1, sz_of (by rw [List.length_map, List.length_map]; show 2 + ns1.length ≤ 100000; omega), fun Lb hLb => ?_⟩
    have e2 := Ex.new (o := .lst ([0, 4000000].map V.int ++ ns1.map V.int)) hLb
    have gLb : (upd G1 Lb (.lst ([0, 4000000].map V.int ++ ns1.map V.int))) Lb = some (.lst (([0, 4000000] ++ ns1).map V.int)) := by rw [upd_same, List.map_append]
    generalize upd G1 Lb (.lst ([0, 4000000].map V.int ++ ns1.map V.int)) = G2 at e2 gLb ⊢
    have e02 := e1.trans e2
    have hs2 : SqT K G2 a xs := ex_t e02 hs0
    refine ⟨_, rfl, a, rfl, ⟨xs, hs2⟩, fun Dc hDc => lc_tup (K := K) (a := a) (xs := xs) (fun i G => Ex G2 G ∧ ∃ ns : List Int, G Dc = some (.lst (ns.map V.int)) ∧ ns.length ≤ i ∧ ∀ n ∈ ns, 0 ≤ n ∧ n ≤ 4000000) ⟨Ex.new hDc, [], upd_same, Nat.le_refl _, fun n h => by cases h⟩ (fun i G _ ⟨e, _⟩ => ex_t e hs2) ?_ ?_⟩
    · rintro i x G hx ⟨e, ns, hns, nl, nb⟩
      obtain ⟨b, u, hb, rfl, hst, _⟩ := dp_bar_get (ha0.up e02) hx
      obtain ⟨a0, a1, a2⟩ := ix3 b
      have hi := (List.getElem?_eq_some_iff.mp hb).1
      have bb := bound b (List.mem_of_getElem? hb)
      refine ⟨rfl, _, rfl, u, _, 2, _, rfl, rfl, ex_t e hst, a2, _, _, rfl, rfl, _, rfl, iteD (fun c0 => ?_) (fun c0 => ?_)⟩
      · refine ⟨_, rfl, u, _, 2, _, rfl, rfl, ex_t e hst, a2, Or.inl ⟨_, rfl, _, hns, sz_lt (by rw [List.length_map]; omega), e.mut (p := Dc) hDc, ns ++ [b.2.2], by rw [upd_same, List.map_append]; rfl, ?_, fun n hn => ?_⟩⟩
        · rw [List.length_append]
          show ns.length + 1 ≤ i + 1
          omega
        · rcases List.mem_append.mp hn with h | h
          · exact nb n h
          · rw [List.mem_singleton.mp h]
            omega
      · exact ⟨e, ns, hns, by omega, nb⟩
    rintro G3 ⟨e3, ns2, hns2, nl2, nb2⟩
    refine ⟨Lb, Dc, _, _, rfl, rfl, e3 _ _ gLb, hns2, sz_of (by rw [List.length_map, List.length_map]; show ns1.length + 2 + ns2.length ≤ 100000; omega), fun Dn hDn => ?_⟩
    have e4 := Ex.new (o := .lst (([0, 4000000] ++ ns1).map V.int ++ ns2.map V.int)) hDn
    have gDn : (upd G3 Dn (.lst (([0, 4000000] ++ ns1).map V.int ++ ns2.map V.int))) Dn = some (.lst (([0, 4000000] ++ ns1 ++ ns2).map V.int)) := by rw [upd_same, ← List.map_append]
    generalize upd G3 Dn (.lst (([0, 4000000] ++ ns1).map V.int ++ ns2.map V.int)) = G4 at e4 gDn ⊢
    have e04 : Ex H G4 := (((e0.trans e1).trans e2).trans e3).trans e4
    have dl : 1 ≤ ([0, 4000000] ++ ns1 ++ ns2).length ∧ ([0, 4000000] ++ ns1 ++ ns2).length ≤ 30 := by
      simp only [List.length_append, List.length_cons, List.length_nil]
      omega
    have db : ∀ n ∈ [0, 4000000] ++ ns1 ++ ns2, 0 ≤ n ∧ n ≤ 4000000 := fun n hn => by
      simp only [List.mem_append, List.mem_cons, List.not_mem_nil, or_false] at hn
      rcases hn with (h | h) | h
      · omega
      · exact nb1 n h
      · exact nb2 n h
    generalize [0, 4000000] ++ ns1 ++ ns2 = dates at gDn dl db ⊢
    have J4 : Jar G4 j := J.ex e04
    have B4 : But [j] H G4 := But.of e04
    have nDj : Dn ≠ j := fun z => by
      obtain ⟨x, y, hj, hv, _⟩ := J4
      have hh := (e4.trans (Ex.refl G4)) 
      exact (J.ex (((e0.trans e1).trans e2).trans e3)).ne hDn z
    clear hL0 hDa hLb hDc hDn gL0 gLb hns1 hns2 nb1 nb2 nl1 nl2
    -- six turns
    refine ⟨_, rfl, by decide, by decide, for_range (lo := 0) (n := (6 : Int).toNat) (fun n σ G => ∃ v5 v6 v7 v8 v9, σ = [some (V.ref j), some (V.ref a), some (V.int top), some (V.ref Dn), none, v5, v6, v7, v8, v9, none, none, none, none, none, none, none] ∧ Jar G j ∧ But [j] G4 G) ⟨_, _, _, _, _, rfl, J4, But.refl⟩ ?_ ?_⟩
    · rintro n σ G hn ⟨v5, v6, v7, v8, v9, rfl, J5, B5⟩
      have one_date : ∀ {G : Hp}, But [j] G4 G → SqA K (cut [j] G) Dn (dates.map V.int) := fun {G} b => Or.inl (Or.inl (Or.inl (by rw [cut_out (by simpa using nDj)]; exact b _ _ (by simpa using nDj) gDn)))
      refine ⟨_, rfl, _, rfl, j, Dn, _, rfl, J5, one_date B5, by rw [List.length_map]; exact dl.1, by rw [List.length_map]; omega, fun i1 w1 G5 hw1 J6 B6 => ?_⟩
      obtain ⟨x1, hx1, rfl⟩ := one_int hw1
      have B06 := B5.trans B6
      refine Or.inl ⟨_, rfl, _, rfl, _, rfl, j, Dn, _, rfl, J6, one_date B06, by rw [List.length_map]; exact dl.1, by rw [List.length_map]; omega, fun i2 w2 G6 hw2 J7 B7 => ?_⟩
      obtain ⟨x2, hx2, rfl⟩ := one_int hw2
      refine Or.inl ⟨_, rfl, h2, fun Le hLe => ?_⟩
      have B07 := B06.trans B7
      have e7 := Ex.new (o := .lst [V.int x1, .int x2]) hLe
      have J8 := J7.ex e7
      have B08 := B07.trans (But.of e7)
      refine ⟨Le, [x1, x2], rfl, Or.inl (Or.inl upd_same), by show 2 < 64; decide, fun ns' ps hperm hpw hps => ?_⟩
      obtain ⟨y1, y2, rfl, hy, hy1, hy2⟩ := perm_two hperm hpw
      have b1 := db x1 hx1
      have b2 := db x2 hx2
      have e8 := Ex.new (o := .lst ([y1, y2].map V.int)) hps
      have J9 := J8.ex e8
      have B09 := B08.trans (But.of e8)
      have gps : (upd (upd G6 Le (.lst [V.int x1, .int x2])) ps (.lst ([y1, y2].map V.int))) ps = some (.lst ([y1, y2].map V.int)) := upd_same
      generalize upd (upd G6 Le (.lst [V.int x1, .int x2])) ps (.lst ([y1, y2].map V.int)) = G7 at J9 B09 gps ⊢
      refine ⟨_, rfl, ps, _, 0, _, rfl, rfl, Or.inl (Or.inl gps), rfl, _, rfl, ps, _, 1, _, rfl, rfl, Or.inl (Or.inl gps), rfl, Or.inl ⟨_, rfl, _, rfl, j, 2, rfl, J9, by decide, by decide, fun c2 G8 hc2 J10 B10 => ?_⟩⟩
      have B010 := B09.trans B10
      refine ⟨_, _, rfl, rfl, _, _, rfl, _, _, rfl, ?_⟩
      have htt : y1 ≤ (if y2 + (c2 : Int) < 4000000 then y2 + (c2 : Int) else 4000000) ∧ (if y2 + (c2 : Int) < 4000000 then y2 + (c2 : Int) else 4000000) ≤ 4000000 := by
        split <;> omega
      generalize (if y2 + (c2 : Int) < 4000000 then y2 + (c2 : Int) else 4000000) = tt at htt ⊢
      have y1b : 0 ≤ y1 ∧ y1 ≤ 4000000 := by omega
      refine ⟨_, rfl, Nat.zero_le _, fun t0 ht0 => ?_⟩
      have e9 := Ex.new (o := .tup []) ht0
      have J11 := J10.ex e9
      have B011 := B010.trans (But.of e9)
      have DA : Dp K (cut [j] (upd G8 t0 (.tup []))) (.ref a) (barsD bs) := D1.up (B4.trans B011).cut
      refine ⟨barsD bs, .tuple [], DA.up ex_cut, .tup (Or.inl (Or.inl upd_same)) .nil, min_tnil _, _, rfl, ?_⟩
      rw [show barsD bs = .tuple (bs.map barD) from rfl, eqv_tnil]
      generalize upd G8 t0 (.tup []) = G9 at J11 B011 DA ⊢
      cases hE : (bs.map barD).isEmpty with
      | true =>
        refine iteT (iteT ⟨_, rfl, j, 6, rfl, J11, by decide, by decide, fun k1 G10 hk J12 B12 => ?_⟩)
        have B012 := B011.trans B12
        have DK := D1.up (B4.trans B012).cut
        refine ⟨_, rfl, _, rfl, _, rfl, _, rfl, .ref a, .int (k1 : Int), .int y1, .int tt, barsD bs, .int (k1 : Int), .int y1, .int tt, rfl, DK.up ex_cut, .int _, .int _, .int _, ?_⟩
        rw [count_told ok (by omega) y1b ⟨htt.1, htt.2⟩]
        intro vt Ga ea hvt
        refine ⟨_, rfl, _, rfl, _, rfl, _, rfl, .ref a, bs, (k1 : Int), y1, tt, rfl, (DK.up ex_cut).up ea, by omega, fun Gb eb => ?_⟩
        exact ⟨_, _, _, rfl, hvt.up eb, .int _, rfl, fun Gc ec => ⟨_, rfl, iteF ⟨_, _, _, _, _, rfl, J12.ex ((ea.trans eb).trans ec), B012.trans (But.of ((ea.trans eb).trans ec))⟩⟩⟩
      | false =>
        refine iteF ⟨_, rfl, j, 4, rfl, J11, by decide, by decide, fun c4 G10 hc4 J12 B12 => ⟨rfl, _, rfl, iteD (fun c0 => ?_) (fun c0 => ?_)⟩⟩
        · refine ⟨_, rfl, j, 6, rfl, J12, by decide, by decide, fun k1 G11 hk J13 B13 => ?_⟩
          have B013 := (B011.trans B12).trans B13
          have DK := D1.up (B4.trans B013).cut
          refine ⟨_, rfl, _, rfl, _, rfl, _, rfl, .ref a, .int (k1 : Int), .int y1, .int tt, barsD bs, .int (k1 : Int), .int y1, .int tt, rfl, DK.up ex_cut, .int _, .int _, .int _, ?_⟩
          rw [count_told ok (by omega) y1b ⟨htt.1, htt.2⟩]
          intro vt Ga ea hvt
          refine ⟨_, rfl, _, rfl, _, rfl, _, rfl, .ref a, bs, (k1 : Int), y1, tt, rfl, (DK.up ex_cut).up ea, by omega, fun Gb eb => ?_⟩
          exact ⟨_, _, _, rfl, hvt.up eb, .int _, rfl, fun Gc ec => ⟨_, rfl, iteF ⟨_, _, _, _, _, rfl, J13.ex ((ea.trans eb).trans ec), B013.trans (But.of ((ea.trans eb).trans ec))⟩⟩⟩
        · have hne : 1 ≤ xs.length := by
            rw [hxl]
            cases bs with
            | nil => cases hE
            | cons b bs => show 1 ≤ bs.length + 1; omega
          have B012 := B011.trans B12
          refine ⟨_, rfl, _, rfl, j, a, xs, rfl, J12, Or.inr (ex_t (B4.trans B012).cut hs), hne, by omega, fun ib vb G11 hvb J13 B13 => ?_⟩
          have B013 := B012.trans B13
          obtain ⟨b, u, hb, rfl, hst, _⟩ := dp_bar_get (ha.up (B4.trans B013).cut) hvb
          obtain ⟨a0, a1, a2⟩ := ix3 b
          have bb := bound b (List.mem_of_getElem? hb)
          refine ⟨u, _, 0, _, rfl, rfl, ex_t ex_cut hst, a0, ?_⟩
          have DK := D1.up (B4.trans B013).cut
          refine ⟨_, rfl, _, rfl, _, rfl, _, rfl, .ref a, .int b.1, .int y1, .int tt, barsD bs, .int b.1, .int y1, .int tt, rfl, DK.up ex_cut, .int _, .int _, .int _, ?_⟩
          rw [count_told ok (by omega) y1b ⟨htt.1, htt.2⟩]
          intro vt Ga ea hvt
          refine ⟨_, rfl, _, rfl, _, rfl, _, rfl, .ref a, bs, b.1, y1, tt, rfl, (DK.up ex_cut).up ea, by omega, fun Gb eb => ?_⟩
          exact ⟨_, _, _, rfl, hvt.up eb, .int _, rfl, fun Gc ec => ⟨_, rfl, iteF ⟨_, _, _, _, _, rfl, J13.ex ((ea.trans eb).trans ec), B013.trans (But.of ((ea.trans eb).trans ec))⟩⟩⟩
    · rintro σ G ⟨v5, v6, v7, v8, v9, rfl, J5, B5⟩
      -- x
      refine ⟨_, rfl, _, rfl, _, _, rfl, rfl, h6, fun Lx hLx => ?_⟩
      have ex := Ex.new (o := .lst [V.int 0, .int 1, .int 3, .int (4000000 - top), .int 3999990, .int 4000000]) hLx
      refine ⟨j, Lx, _, rfl, J5.ex ex, one_lst J5 hLx, by show 1 ≤ 6; decide, by show 6 < 1073741824; decide, fun ix wx G6 hwx J6 B6 => ?_⟩
      obtain ⟨x, hx, rfl⟩ := one_int (l := [0, 1, 3, 4000000 - top, 3999990, 4000000]) hwx
      have xb : 0 ≤ x ∧ x ≤ 4000000 := by
        simp only [List.mem_cons, List.not_mem_nil, or_false] at hx
        omega
      have B06 : But [j] H G6 := ((B4.trans B5).trans (But.of ex)).trans B6
      have g6 : Gs j TT H G6 := (Gs.here J hT).but J6 B06
      have D6 := D1.up B06.cut
      have hs6 := ex_t (B06.cut.trans ex_cut) hs
      have ha6 := ha.up B06.cut
      clear hx hwx ex B5 B6
      -- later
      refine ⟨_, rfl, a, rfl, ⟨xs, hs6⟩, fun Dl hDl => lc_tup (K := K) (a := a) (xs := xs) (fun i G => Ex G6 G ∧ ∃ acc, G Dl = some (.lst acc) ∧ DpAll K (cut [Dl, j] G) acc (((bs.take i).map fun b => laterB b x).map barD)) ⟨Ex.new hDl, [], upd_same, .nil⟩ (fun i G _ ⟨e, _⟩ => ex_t e hs6) ?_ ?_⟩
      · rintro i y G hy ⟨e, acc, ga, hacc⟩
        obtain ⟨b, u, hb, rfl, hst, hD⟩ := dp_bar_get (ha6.up ex_cut) hy
        have hal : acc.length ≤ 13 := by rw [hacc.len, List.length_map, List.length_map, List.length_take]; omega
        have fin : ∀ (d' : Int), laterB b x = (b.1, b.2.1 + x, d') → ∀ r, G r = none → ∃ acc', (upd G r (.tup [.int b.1, .int (b.2.1 + x), .int d'])) Dl = some (.lst acc') ∧ acc'.length < sizeLine ∧ Ex G6 (upd (upd G r (.tup [.int b.1, .int (b.2.1 + x), .int d'])) Dl (.lst (acc' ++ [.ref r]))) ∧
            ∃ acc2, upd (upd G r (.tup [.int b.1, .int (b.2.1 + x), .int d'])) Dl (.lst (acc' ++ [.ref r])) Dl = some (.lst acc2) ∧ DpAll K (cut [Dl, j] (upd (upd G r (.tup [.int b.1, .int (b.2.1 + x), .int d'])) Dl (.lst (acc' ++ [.ref r])))) acc2 (((bs.take (i + 1)).map fun b => laterB b x).map barD) := fun d' hd' r hr2 => by
          have er := Ex.new (o := .tup [.int b.1, .int (b.2.1 + x), .int d']) hr2
          have SN : ∀ z ∈ [Dl, j], G z ≠ none := fun z hz => by
            simp only [List.mem_cons, List.not_mem_nil, or_false] at hz
            rcases hz with rfl | rfl
            · rw [ga]
              exact fun z => nomatch z
            · exact (J6.ex e).some
          have bp : But [Dl, j] (upd G r (.tup [.int b.1, .int (b.2.1 + x), .int d'])) (upd (upd G r (.tup [.int b.1, .int (b.2.1 + x), .int d'])) Dl (.lst (acc ++ [.ref r]))) := But.put (by simp)
          refine ⟨acc, er _ _ ga, sz_lt (by omega), (e.trans er).mut (p := Dl) hDl, _, upd_same, ?_⟩
          rw [take_at hb, List.map_append, List.map_append]
          refine (hacc.up ((But.of er).trans bp).cut).app (.cons ?_ .nil)
          show Dp K _ (.ref r) (barD (laterB b x))
          rw [hd']
          exact (bar_newS SN hr2 _ _ _).up bp.cut
        refine ⟨u, _, rfl, ex_t e hst, rfl, _, _, rfl, _, _, rfl, _, _, rfl, rfl, rfl, ?_⟩
        unfold tYes
        dsimp only
        rw [if_pos rfl]
        refine ⟨_, rfl, _, rfl, _, rfl, _, _, rfl, rfl, _, rfl, _, rfl, rfl, _, rfl, iteN (fun c0 => ?_) (fun c0 => ?_)⟩
        · have c0' : b.2.2 = -1 := by injection c0
          refine ⟨_, rfl, h3, fun r hr2 => fin (-1) ?_ r hr2⟩
          unfold laterB
          rw [if_pos c0']
        · have c0' : ¬ b.2.2 = -1 := fun z => c0 (by rw [z])
          refine ⟨_, rfl, _, rfl, _, _, rfl, rfl, h3, fun r hr2 => fin (b.2.2 + x) ?_ r hr2⟩
          unfold laterB
          rw [if_neg c0']
      rintro G7 ⟨e7, acc, ga, hacc⟩
      rw [hxl, List.take_length] at hacc
      have hsh : oShift (barsD bs) (.int x) = oFirst (bs.map fun b => laterB b x) := by
        unfold oShift
        rw [oBars_ok ok]
        unfold oMany
        rw [whole_in xb]
        rfl
      have hls : (bs.map fun b => laterB b x).length = xs.length := by rw [List.length_map, hxl]
      generalize (bs.map fun b => laterB b x) = ls at hacc hsh hls
      have hal : acc.length = ls.length := by rw [hacc.len, List.length_map]
      refine ⟨Dl, acc, rfl, Or.inl ⟨Or.inl (Or.inl ga), fun tl htl => ?_⟩⟩
      have nDl : Dl ≠ j := J6.ne hDl
      have hacc7 : DpAll K (cut [j] G7) acc (ls.map barD) := hacc.up fun z o hz => by
        obtain ⟨n, q⟩ := cut_some hz
        rw [cut_out (by simp only [List.mem_cons, List.not_mem_nil, or_false, not_or] at n ⊢; exact n.2)]
        exact q
      have e8 := Ex.new (o := .tup acc) htl
      have J7 := J6.ex e7
      have Dla := dp_newS (S := [j]) (fun z hz => by rw [List.mem_singleton.mp hz]; exact J7.some) htl hacc7
      have gtl : (upd G7 tl (.tup acc)) tl = some (.tup acc) := upd_same
      have hacc8 : DpAll K (upd G7 tl (.tup acc)) acc (ls.map barD) := (hacc7.up ex_cut).up e8
      have e68 := e7.trans e8
      generalize upd G7 tl (.tup acc) = G8 at Dla gtl e68 hacc8 ⊢
      clear e8 e7 htl hacc7 ga hacc
      -- bad
      refine ⟨_, rfl, a, xs, rfl, Or.inr (ex_t e68 hs6), _, rfl, by omega, by omega, fun Db hDb => lc_range (lo := 0) (n := (xs.length : Int).toNat) (fun i G => Ex G8 G ∧ G Db = some (.lst (((List.range i).filter fun j => !goodB (ls.getD j (0, 0, 0))).map fun j => V.int (j : Nat)))) ⟨Ex.new hDb, upd_same⟩ ?_ ?_⟩
      · rintro i G hi ⟨e, gb⟩
        have hi' : i < acc.length := by omega
        rw [Int.zero_add]
        obtain ⟨z, hz⟩ : ∃ z, acc[i]? = some z := ⟨acc[i], List.getElem?_eq_getElem hi'⟩
        obtain ⟨b, ub, hb, rfl, hst, hDb'⟩ := dp_bar_get hacc8 hz
        have hgj : ls.getD i (0, 0, 0) = b := by rw [List.getD_eq_getElem?_getD, hb]; rfl
        refine ⟨rfl, _, rfl, _, rfl, tl, acc, _, _, rfl, rfl, Or.inl (Or.inl (e _ _ gtl)), at_of (by omega) hz, .ref ub, barD b, rfl, hDb'.up e, fun G2 e2 => ⟨_, rfl, ?_⟩⟩
        rw [barOf_isSome]
        cases hg : goodB b with
        | true =>
          refine iteF ⟨e.trans e2, ?_⟩
          rw [e2 _ _ gb, List.range_succ, List.filter_append, List.filter_cons, hgj, hg, if_neg (by decide), List.filter_nil, List.append_nil]
        | false =>
          refine iteT ⟨_, rfl, _, e2 _ _ gb, sz_lt ?_, (e.trans e2).mut (p := Db) hDb, ?_⟩
          · rw [List.length_map]
            refine Nat.lt_of_le_of_lt (List.length_filter_le _ _) ?_
            rw [List.length_range]
            omega
          · rw [upd_same, List.range_succ, List.filter_append, List.filter_cons, hgj, hg, if_pos (show (!false) = true from rfl), List.map_append]
            rfl
      rintro G9 ⟨e9, gb⟩
      rw [show (xs.length : Int).toNat = ls.length by omega] at gb
      have hfirst : oFirst ls = match ((List.range ls.length).filter fun j => !goodB (ls.getD j (0, 0, 0))).head? with
          | some i => .bad "BadBars" (.int (i : Nat))
          | none => .told (barsD ls) := by
        unfold oFirst
        rw [List.head?_filter] <;> (generalize List.find? _ _ = o; cases o <;> rfl)
      have hlen9 : ((List.range ls.length).filter fun j => !goodB (ls.getD j (0, 0, 0))).length ≤ 13 := by
        refine Nat.le_trans (List.length_filter_le _ _) ?_
        rw [List.length_range]
        omega
      generalize ((List.range ls.length).filter fun j => !goodB (ls.getD j (0, 0, 0))) = idx at gb hfirst hlen9
      have e69 := e68.trans e9
      refine ⟨_, rfl, Nat.zero_le _, fun l0 hl0 => ?_⟩
      have e10 := Ex.new (o := .lst []) hl0
      refine ⟨.list (idx.map fun j => .int (j : Nat)), .list [], .lst (Or.inl (Or.inl (e10 _ _ gb))) (dpAll_nats idx), .lst (Or.inl (Or.inl upd_same)) .nil, min_lnil _, _, rfl, ?_⟩
      rw [eqv_lnil]
      have e6A := e69.trans e10
      have gbA := e10 _ _ gb
      have DlaA : Dp K (upd G9 l0 (.lst [])) (.ref tl) (barsD ls) := (Dla.up ex_cut).up (e9.trans e10)
      generalize upd G9 l0 (.lst []) = GA at e6A gbA DlaA ⊢
      have gA := g6.ex e6A
      have DA : Dp K GA (.ref a) (barsD bs) := (D6.up ex_cut).up e6A
      -- the end, due at td
      have fin : ∀ (td : Addr) (G : Hp) (o : Out), Ex GA G → oShift (barsD bs) (.int x) = o → o.ok → Dp K G (.ref td) o.row → fits 4 o.row = true → ∀ (σ' : L2.St), σ'[1]? = some (some (.ref a)) → σ'[10]? = some (some (.int x)) → σ'[16]? = some (some (.ref td)) →
          tCall (spLike K 4) [] E0 (tCons (tLam TT (TTsaid K CR cl) fun E => tCall (spShift K cl) [] E (tCons (tVar 1) (tCons (tVar 10) tNil))) (tCons (tVar 16) tNil)) σ' G Q := fun td G o e ho hok hD hf σ' s1 s10 s16 => by
        have gG := gA.ex e
        refine row_out R gG.tab o hok (fun G' eN Q' E' hq => ⟨_, s1, _, s10, .ref a, .int x, barsD bs, .int x, rfl, dp_extN eN _ _ (DA.up e), .int _, by rw [ho]; exact hq⟩) (fun p H5 eN T5 _ dp => ?_)
        exact ⟨_, s16, _, _, _, rfl, dp, dp_extN eN _ _ hD, hf, fun H6 e6 => q H6 ((gG.extN eN T5).ex e6)⟩
      cases idx with
      | nil =>
        refine iteT ⟨_, rfl, h2, fun td htd => ?_⟩
        have ed := Ex.new (o := .tup [.str "told", .ref tl]) htd
        refine fin td _ _ ed (hsh.trans hfirst) True.intro (.tup (Or.inl (Or.inl upd_same)) (.cons (.str _) (.cons (DlaA.up ed) .nil))) ?_ _ rfl rfl rfl
        show (decide _ && (true && (fits 3 (barsD ls) && true))) = true
        have : fits 3 (barsD ls) = true := fits_tupL (fun d hd => by
          obtain ⟨y, _, rfl⟩ := List.mem_map.mp hd
          rfl) (by rw [List.length_map]; omega)
        rw [this]
        rfl
      | cons n rest =>
        refine iteF ⟨_, rfl, Db, _, 0, _, rfl, rfl, Or.inl (Or.inl gbA), atI_nat (j := 0) rfl, h2, fun td htd => ?_⟩
        have ed := Ex.new (o := .tup [.str "BadBars", .int (n : Nat)]) htd
        exact fin td _ _ ed (hsh.trans hfirst) (by show ("BadBars" : Str) ∈ cls4; decide) (.tup (Or.inl (Or.inl upd_same)) (.cons (.str _) (.cons (.int _) .nil))) rfl _ rfl rfl rfl
end
end K22
end
section
set_option pp.maxSteps 400
set_option Elab.async false
set_option linter.all false
set_option maxRecDepth 100000
set_option maxHeartbeats 4000000
namespace K22
open PySem PySem.Spec PyProof.Rows L2 LB LamX Evl
def spNearR (K : PySem.W.Frag) : Sp := fun vs H Q _ => ∃ (j : Addr) (v1 v2 : V) (b1 b2 : List Bar), vs = [.ref j, v1, v2] ∧ Jar H j ∧ Dp K (cut [j] H) v1 (barsD b1) ∧ Dp K (cut [j] H) v2 (barsD b2) ∧ BarsOk b1 ∧ BarsOk b2 ∧ b1.length ≤ 13 ∧ b2.length ≤ 13 ∧ ∀ H', Jar H' j → But [j] H H' → Q (.bl true) H'
theorem cost_pos {x y : Bar} {c : Int} (h : costB x y = some c) : 0 ≤ c := by
  unfold costB at h
  split at h
  · cases h
  · split at h
    · cases h
    · cases h
      have h1 := absI_nn (x.2.1 - y.2.1)
      have h2 := absI_nn (x.2.2 - y.2.2)
      unfold maxI
      split <;> omega
theorem near_len {x : Bar} {ys : List Bar} {w : Int} {n : Nat} (h : ys.length ≤ n) : (nearL x ys w).length ≤ n := by
  unfold nearL
  refine Nat.le_trans (List.length_filter_le _ _) ?_
  rw [List.length_range]
  exact h
theorem fits_nats {l : List Nat} (h : l.length ≤ 100000) : fits 4 (.tuple (l.map fun j => .int (j : Nat))) = true := fits_tupL (fun d hd => by
  obtain ⟨y, _, rfl⟩ := List.mem_map.mp hd
  rfl) (by rw [List.length_map]; exact h)
theorem near_gen {b1 b2 : List Bar} {w s : Int} {n : Nat} (ok1 : BarsOk b1) (ok2 : BarsOk b2) (hw : 0 ≤ w ∧ w ≤ 10000000) (hs : 0 ≤ s ∧ s ≤ 1) (hn : n ≤ 79) : oNear (barsD b1) (barsD b2) (.int w) (.int s) (.int (n : Int)) =
    if (if s = 0 then b1 else b2).length ≤ n then .bad "BadIndex" (.int (n : Int)) else .told (.tuple ((nearL ((if s = 0 then b1 else b2).getD n (0, 0, 0)) (if s = 0 then b2 else b1) w).map fun j => .int (j : Nat))) := by
  unfold oNear oWide
  rw [oBars_ok ok1, oBars_ok ok2]
  unfold oMany
  rw [whole_in hw, whole_in hs, whole_in (show (0 : Int) ≤ (n : Int) ∧ (n : Int) ≤ 79 by omega)]
  rfl
theorem near_told0 {b1 b2 : List Bar} {w : Int} {n : Nat} {x : Bar} (ok1 : BarsOk b1) (ok2 : BarsOk b2) (hw : 0 ≤ w ∧ w ≤ 10000000) (hn : n ≤ 79) (hl : n < b1.length) (hx : b1[n]? = some x) :
    oNear (barsD b1) (barsD b2) (.int w) (.int 0) (.int (n : Int)) = .told (.tuple ((nearL x b2 w).map fun j => .int (j : Nat))) := by
  rw [near_gen ok1 ok2 hw (by decide) hn, if_pos rfl, if_pos rfl, if_neg (by omega), List.getD_eq_getElem?_getD, hx]
  rfl
theorem near_told1 {b1 b2 : List Bar} {w : Int} {n : Nat} {x : Bar} (ok1 : BarsOk b1) (ok2 : BarsOk b2) (hw : 0 ≤ w ∧ w ≤ 10000000) (hn : n ≤ 79) (hl : n < b2.length) (hx : b2[n]? = some x) :
    oNear (barsD b1) (barsD b2) (.int w) (.int 1) (.int (n : Int)) = .told (.tuple ((nearL x b1 w).map fun j => .int (j : Nat))) := by
  have h10 : ¬ ((1 : Int) = 0) := by decide
  rw [near_gen ok1 ok2 hw (by decide) hn, if_neg h10, if_neg h10, if_neg (by omega), List.getD_eq_getElem?_getD, hx]
  rfl
section
variable {P : Program} {w : World} {K : PySem.W.Frag} {mg : Str → Option Value} {base : Heap} {cl : Str → Addr}
theorem ok_near_right (D : Dn K mg "_law_bl_near_right" s_law_bl_near_right ["jar", "one", "two"]) (T : Bt mg) (f_law_one : Cal P w K mg base 2 "_law_one" (spOne K)) (f_law_take : Cal P w K mg base 1 "_law_take" spTake) (f_law_like : Cal P w K mg base 6 "_law_like" (spLike K 4))
    (f_near_of : CalX P w K mg base 6 "near_of" (spNearOf K cl)) (f_law_mt_near : Cal P w K mg base 2 "_law_mt_near" (spNearL K)) (f_law_mt_cost : Cal P w K mg base 1 "_law_mt_cost" (spCost K)) : Cal P w K mg base 8 "_law_bl_near_right" (spNearR K) := by
  refine cal_of D sc_law_bl_near_right (fun vs H Q E h => ?_) (fun f cdv A outer s H vs Q E hr h => ?_)
  · obtain ⟨j, v1, v2, b1, b2, rfl, _⟩ := h
    rfl
  · obtain ⟨j, v1, v2, b1, b2, rfl, J, D1, D2, ok1, ok2, l1, l2, q⟩ := h
    have hun : (A.deeper (envOfC "_law_bl_near_right" (defScope s_law_bl_near_right) s.heap.objs.size f cdv)).units + 16 < cLine := by
      have := hr.un
      omega
    refine ⟨_, (pss_cons (ps_for PassesOwn.never rfl (pi_list (pe_lst (pa_cons pe_int (pa_cons pe_int pa_nil)))) (pg_name (i := 3) sc_law_bl_near_right.nd rfl (Or.inl rfl)) (pss_cons (ps_asg (pe_ifExp (pt_cmpR op_eq (pv 3) pe_int (nomark _)) (pe_tup (pa_cons (pv 1) (pa_cons (pv 2) pa_nil))) (pe_tup (pa_cons (pv 2) (pa_cons (pv 1) pa_nil)))) (pg_tup rfl (pgs_cons (pg_name (i := 4) sc_law_bl_near_right.nd rfl (Or.inr rfl)) (pgs_cons (pg_name (i := 5) sc_law_bl_near_right.nd rfl (Or.inl rfl)) pgs_nil))))
      (pss_one (ps_for PassesOwn.never rfl (pi_range1 (by rfl) T.m_range (pa_cons (pe_callB call_len_seq (by rfl) T.m_len PySem.boot_len (pa_cons (pv 4) pa_nil)) pa_nil)) (pg_name (i := 6) sc_law_bl_near_right.nd rfl (Or.inr rfl)) (pss_cons (ps_setLc (i := 7) rfl sc_law_bl_near_right.nd rfl rfl (sw_true rfl rfl rfl (by decide +kernel)) (own := [("bar", 8)]) (pi_tup (pv 5)) (blkOk_by (N := ["jar", "one", "two", "side", "mine", "others", "i", "costs", "bar", "some", "cost_v", "w", "wide"]) (sc := defScope s_law_bl_near_right) (by decide +kernel)) (fun _ _ _ _ _ => (pg_name (i := 8) sc_law_bl_near_right.nd rfl (Or.inl rfl))) (fun _ _ _ _ _ => pts_nil) (fun _ _ _ _ _ => (LB.pe_c f_law_mt_cost hr (by decide) (by rfl) (pa_cons (pe_ix (ixK_tup (K := K) rfl) (pv 4) (pv 6) (fun _ _ => rfl)) (pa_cons (pv 8) pa_nil)))))
      (pss_cons (ps_setLc (i := 9) rfl sc_law_bl_near_right.nd rfl rfl (sw_true rfl rfl rfl (by decide +kernel)) (own := [("cost_v", 10)]) (pi_list (pv 7)) (blkOk_by (N := ["jar", "one", "two", "side", "mine", "others", "i", "costs", "bar", "some", "cost_v", "w", "wide"]) (sc := defScope s_law_bl_near_right) (by decide +kernel)) (fun _ _ _ _ _ => (pg_name (i := 10) sc_law_bl_near_right.nd rfl (Or.inl rfl))) (fun _ _ _ _ _ => (pts_one (PW.pt (pw_and (pt_cmp (pc_notN (pv 10)) rfl) (pw_and1 (pt_cmpR op_le (pv 10) pe_int (nomark _))))))) (fun _ _ _ _ _ => (pe_callTy call_int1 (by rfl) T.m_int (by decide +kernel) (pa_cons (pv 10) pa_nil))))
      (pss_cons (ps_set (i := 11) sc_law_bl_near_right.nd rfl (Or.inl rfl) (pe_ifExp (PW.pt (pw_and (pt_cmpR (op_neP hun) (pv 9) (pe_lst pa_nil) (nomark _)) (pw_and1 (pt_cmpR op_gt (LB.pe_c f_law_take hr (by decide) (by rfl) (pa_cons (pv 0) (pa_cons pe_int pa_nil))) pe_int (nomark _))))) (LB.pe_c f_law_one hr (by decide) (by rfl) (pa_cons (pv 0) (pa_cons (pv 9) pa_nil))) (LB.pe_c f_law_one hr (by decide) (by rfl) (pa_cons (pv 0) (pa_cons (pe_lst (pa_cons pe_int (pa_cons pe_int (pa_cons pe_int (pa_cons pe_int pa_nil))))) pa_nil)))))
      (pss_one (ps_for PassesOwn.never rfl (pi_list (pe_lst (pa_cons (pv 11) (pa_cons (pe_callB (call_max2 rfl) (by rfl) T.m_max (by decide +kernel) (pa_cons pe_int (pa_cons (pe_op op_sub (pe_callTy call_int1 (by rfl) T.m_int (by decide +kernel) (pa_cons (pv 11) pa_nil)) pe_int) pa_nil))) pa_nil)))) (pg_name (i := 12) sc_law_bl_near_right.nd rfl (Or.inl rfl)) (pss_one (ps_if (pt_not (pt_val (LB.pe_c f_law_like hr (by decide) (by rfl) (pa_cons (LB.pe_cx f_near_of hr (by decide) (by rfl) (pa_cons (pv 1) (pa_cons (pv 2) (pa_cons (pv 12) (pa_cons (pv 3) (pa_cons (pv 6) pa_nil)))))) (pa_cons (pe_callTy call_tuple_of (by rfl) T.m_tuple (by decide +kernel) (pa_cons (LB.pe_c f_law_mt_near hr (by decide) (by rfl) (pa_cons (pe_ix ix_tup (pv 4) (pv 6) (fun _ _ => rfl)) (pa_cons (pv 5) (pa_cons (pv 12) pa_nil)))) pa_nil)) pa_nil))))) (pss_one (ps_ret pe_bl)) pss_nil)))))))))))
      (pss_one (ps_ret pe_bl))), ?_⟩
    have h2 : 2 ≤ sizeLine := by decide
    have h4 : 4 ≤ sizeLine := by decide
    obtain ⟨a1, xs1, rfl, hs1, ha1⟩ := dp_bars D1
    obtain ⟨a2, xs2, rfl, hs2, ha2⟩ := dp_bars D2
    have hx1 : xs1.length = b1.length := by rw [ha1.len, List.length_map]
    have hx2 : xs2.length = b2.length := by rw [ha2.len, List.length_map]
    refine ⟨h2, fun LS hLS => ?_⟩
    have eS := Ex.new (o := .lst [V.int 0, .int 1]) hLS
    have JS := J.ex eS
    have BS : But [j] H (upd H LS (.lst [V.int 0, .int 1])) := But.of eS
    have gS : (upd H LS (.lst [V.int 0, .int 1])) LS = some (.lst [V.int 0, .int 1]) := upd_same
    have nS : LS ≠ j := J.ne hLS
    generalize upd H LS (.lst [V.int 0, .int 1]) = HS at JS BS gS ⊢
    replace D1 := D1.up BS.cut
    replace D2 := D2.up BS.cut
    replace hs1 := ex_t BS.cut hs1
    replace hs2 := ex_t BS.cut hs2
    replace ha1 := ha1.up BS.cut
    replace ha2 := ha2.up BS.cut
    refine ⟨LS, rfl, ⟨_, Or.inl (Or.inl gS)⟩, for_list (K := K) (a := LS) (xs := [V.int 0, .int 1]) (fun i σ G => ∃ w3 w4 w5 w6 w7 w9 w11 w12 : Option V, σ = [some (V.ref j), some (V.ref a1), some (V.ref a2), w3, w4, w5, w6, w7, none, w9, none, w11, w12] ∧ Jar G j ∧ But [j] HS G) ⟨none, none, none, none, none, none, none, none, rfl, JS, But.refl⟩ (fun i σ G _ ⟨_, _, _, _, _, _, _, _, _, _, b'⟩ => Or.inl (Or.inl (b' _ _ (by simpa using nS) gS))) ?_ ?_⟩
    · rintro i y σ G0 hy ⟨w3, w4, w5, w6, w7, w9, w11, w12, rfl, J0, B0⟩
      have hy01 : y = .int 0 ∨ y = .int 1 := by
        match i, hy with
        | 0, hy => cases hy; exact Or.inl rfl
        | 1, hy => cases hy; exact Or.inr rfl
        | i + 2, hy => simp at hy
      rcases hy01 with rfl | rfl
      · refine ⟨_, rfl, rfl, _, rfl, iteT ?_⟩
        refine ⟨_, rfl, _, rfl, h2, fun tp htp => ⟨tp, _, rfl, Or.inl (Or.inl upd_same), rfl, _, _, rfl, _, _, rfl, rfl, ?_⟩⟩
        have ep := Ex.new (o := .tup [V.ref a1, V.ref a2]) htp
        have J1 := J0.ex ep
        have B1 : But [j] HS (upd G0 tp (.tup [V.ref a1, V.ref a2])) := B0.trans (But.of ep)
        generalize upd G0 tp (.tup [V.ref a1, V.ref a2]) = G1 at J1 B1 ⊢
        refine ⟨_, rfl, a1, xs1, rfl, Or.inr (ex_t (B1.cut.trans ex_cut) hs1), _, rfl, by omega, by omega, for_range (lo := 0) (n := (xs1.length : Int).toNat) (fun n σ G => ∃ w6 w7 w9 w11 w12 : Option V, σ = [some (V.ref j), some (V.ref a1), some (V.ref a2), some (V.int 0), some (V.ref a1), some (V.ref a2), w6, w7, none, w9, none, w11, w12] ∧ Jar G j ∧ But [j] HS G) ⟨_, _, _, _, _, rfl, J1, B1⟩ ?_ ?_⟩
        · rintro n σ G2 hn ⟨w6, w7, w9, w11, w12, rfl, J2, B2⟩
          rw [Int.zero_add]
          have hn' : n < xs1.length := by omega
          obtain ⟨z, hz⟩ : ∃ z, xs1[n]? = some z := ⟨xs1[n], List.getElem?_eq_getElem hn'⟩
          obtain ⟨x, u, hx, rfl, hst, hDx⟩ := dp_bar_get ha1 hz
          have hsm2 := ex_t (B2.cut.trans ex_cut) hs1
          have hso2 := ex_t (B2.cut.trans ex_cut) hs2
          have hao2 := (ha2.up B2.cut).up ex_cut
          have hDx2 := (hDx.up B2.cut).up ex_cut
          -- costs
          refine ⟨_, rfl, a2, rfl, ⟨xs2, hso2⟩, fun Dc hDc => lc_tup (K := K) (a := a2) (xs := xs2) (fun i G => Ex G2 G ∧ G Dc = some (.lst ((b2.take i).map fun y => optV (costB x y)))) ⟨Ex.new hDc, upd_same⟩ (fun i G _ ⟨e, _⟩ => ex_t e hso2) ?_ ?_⟩
          · rintro i y G hy ⟨e, gc⟩
            obtain ⟨b, ub, hb, rfl, hstb, hDb⟩ := dp_bar_get hao2 hy
            have hi := (List.getElem?_eq_some_iff.mp hb).1
            refine ⟨rfl, ?_⟩
            unfold tYes
            dsimp only
            rw [if_pos rfl]
            refine ⟨_, rfl, _, rfl, a1, xs1, _, _, rfl, rfl, ex_t e hsm2, at_of (by omega) hz, _, rfl, .ref u, .ref ub, x, b, rfl, hDx2.up e, hDb.up e, _, gc, sz_lt (by rw [List.length_map, List.length_take]; omega), e.mut (p := Dc) hDc, ?_⟩
            rw [upd_same, take_at hb, List.map_append]
            rfl
          rintro G3 ⟨e3, gc⟩
          rw [show xs2.length = b2.length by omega, List.take_length] at gc
          -- some
          refine ⟨_, rfl, Dc, rfl, ⟨_, Or.inl (Or.inl gc)⟩, fun Ds hDs => lc_list (K := K) (a := Dc) (xs := b2.map fun y => optV (costB x y)) (fun i G => Ex G3 G ∧ ∃ ns : List Int, G Ds = some (.lst (ns.map V.int)) ∧ ns.length ≤ i ∧ ∀ n ∈ ns, 0 ≤ n ∧ n ≤ 10000000) ⟨Ex.new hDs, [], upd_same, Nat.le_refl _, fun n h => by cases h⟩ (fun i G _ ⟨e, _⟩ => Or.inl (Or.inl (e _ _ gc))) ?_ ?_⟩
          · rintro i y G hy ⟨e, ns, hns, nl, nb⟩
            rw [List.getElem?_map] at hy
            obtain ⟨b, hb, rfl⟩ := Option.map_eq_some_iff.mp hy
            have hi := (List.getElem?_eq_some_iff.mp hb).1
            cases hc : costB x b with
            | none => exact ⟨rfl, _, rfl, _, rfl, iteF (iteF ⟨e, ns, hns, by omega, nb⟩)⟩
            | some c =>
              have c0 := cost_pos hc
              refine ⟨rfl, _, rfl, _, rfl, iteT ⟨_, rfl, _, _, rfl, rfl, _, rfl, iteD (fun c1 => ?_) (fun c1 => ⟨e, ns, hns, by omega, nb⟩)⟩⟩
              refine ⟨_, rfl, Or.inl ⟨_, rfl, _, hns, sz_lt (by rw [List.length_map]; omega), e.mut (p := Ds) hDs, ns ++ [c], by rw [upd_same, List.map_append]; rfl, ?_, fun n hn => ?_⟩⟩
              · rw [List.length_append]
                show ns.length + 1 ≤ i + 1
                omega
              · rcases List.mem_append.mp hn with h | h
                · exact nb n h
                · rw [List.mem_singleton.mp h]
                  exact ⟨c0, c1⟩
          rintro G4 ⟨e4, ns, hns, nl, nb⟩
          rw [List.length_map] at nl
          -- w
          refine ⟨_, rfl, Nat.zero_le _, fun l0 hl0 => ?_⟩
          have e5 := Ex.new (o := .lst []) hl0
          refine ⟨.list (ns.map .int), .list [], .lst (Or.inl (Or.inl (e5 _ _ hns))) (dpAll_ints ns), .lst (Or.inl (Or.inl upd_same)) .nil, min_lnil _, _, rfl, ?_⟩
          rw [eqv_lnil]
          have e25 := (e3.trans e4).trans e5
          have J5 := J2.ex e25
          have B5 := B2.trans (But.of e25)
          have hns5 := e5 _ _ hns
          have nDs : Ds ≠ j := (J2.ex e3).ne hDs
          generalize upd G4 l0 (.lst []) = G5 at J5 B5 hns5 ⊢
          cases hE : (ns.map PyData.int).isEmpty with
          | true =>
            refine iteF (iteF ⟨_, rfl, h4, fun L4 hL4 => ?_⟩)
            have e6 := Ex.new (o := .lst [V.int 0, .int 1, .int 4, .int 10000000]) hL4
            refine ⟨j, L4, _, rfl, J5.ex e6, one_lst J5 hL4, by show 1 ≤ 4; decide, by show 4 < 1073741824; decide, fun iw vw G6 hvw J6 B6 => ?_⟩
            obtain ⟨w, hw, rfl⟩ := one_int (l := [0, 1, 4, 10000000]) hvw
            have wb : 0 ≤ w ∧ w ≤ 10000000 := by
              simp only [List.mem_cons, List.not_mem_nil, or_false] at hw
              omega
            have B06 := (B5.trans (But.of e6)).trans B6
            refine ⟨_, rfl, _, rfl, Or.inl ⟨_, rfl, _, _, rfl, rfl, _, _, rfl, h2, fun LW hLW => ?_⟩⟩
            have hM : 0 ≤ (if (w - 1 : Int) > 0 then (w - 1 : Int) else 0) ∧ (if (w - 1 : Int) > 0 then (w - 1 : Int) else 0) ≤ 10000000 := by
              have := wb
              split <;> omega
            generalize (if (w - 1 : Int) > 0 then (w - 1 : Int) else 0) = M at hLW hM ⊢
            have eW := Ex.new (o := .lst [V.int w, V.int M]) hLW
            have JW := J6.ex eW
            have BW := B06.trans (But.of eW)
            have gW : (upd G6 LW (.lst [V.int w, V.int M])) LW = some (.lst ([w, M].map V.int)) := upd_same
            have nW : LW ≠ j := J6.ne hLW
            generalize upd G6 LW (.lst [V.int w, V.int M]) = GW at JW BW gW ⊢
            refine ⟨LW, rfl, ⟨_, Or.inl (Or.inl gW)⟩, for_list (K := K) (a := LW) (xs := [w, M].map V.int) (fun i σ G' => ∃ w12 : Option V, σ = [some (V.ref j), some (V.ref a1), some (V.ref a2), some (V.int 0), some (V.ref a1), some (V.ref a2), some (V.int (n : Int)), some (V.ref Dc), none, some (V.ref Ds), none, some (V.int w), w12] ∧ Jar G' j ∧ But [j] GW G') ⟨_, rfl, JW, But.refl⟩ (fun i σ G' _ ⟨_, _, _, b'⟩ => Or.inl (Or.inl (b' _ _ (by simpa using nW) gW))) ?_ ?_⟩
            · rintro i y σ G' hy ⟨w12, rfl, J', B'⟩
              obtain ⟨ww, hww, rfl⟩ := one_int hy
              have wwb : 0 ≤ ww ∧ ww ≤ 10000000 := by
                have := wb
                simp only [List.mem_cons, List.not_mem_nil, or_false] at hww
                omega
              have DD1 := (D1.up (BW.trans B').cut).up ex_cut
              have DD2 := (D2.up (BW.trans B').cut).up ex_cut
              refine ⟨_, rfl, _, rfl, _, rfl, _, rfl, _, rfl, .ref a1, .ref a2, .int ww, .int 0, .int (n : Int), barsD b1, barsD b2, .int ww, .int 0, .int (n : Int), rfl, DD1, DD2, .int _, .int _, .int _, ?_⟩
              rw [near_told0 ok1 ok2 wwb (by omega) (by omega) hx]
              intro vt Ga ea hvt
              have BA := (BW.trans B').trans (But.of ea)
              have DxA := (hDx.up BA.cut).up ex_cut
              refine ⟨_, rfl, _, rfl, a1, xs1, _, _, rfl, rfl, ex_t (BA.cut.trans ex_cut) hs1, at_of (by omega) hz, _, rfl, _, rfl, .ref u, .ref a2, x, b2, ww, rfl, DxA, (D2.up BA.cut).up ex_cut, by omega, fun Dl Gb eb hDl => ?_⟩
              refine ⟨Dl, _, rfl, Or.inl ⟨Or.inl (Or.inl hDl), fun tl htl => ?_⟩⟩
              have et := Ex.new (o := .tup ((nearL x b2 ww).map fun j => V.int (j : Nat))) htl
              refine ⟨vt, .ref tl, _, rfl, hvt.up (eb.trans et), .tup (Or.inl (Or.inl upd_same)) (dpAll_nats _), fits_nats (near_len (by omega)), fun Gc ec => ⟨_, rfl, iteF ⟨_, rfl, J'.ex (((ea.trans eb).trans et).trans ec), B'.trans (But.of (((ea.trans eb).trans et).trans ec))⟩⟩⟩
            · rintro σ G' ⟨w12, rfl, J', B'⟩
              exact ⟨_, _, _, _, _, rfl, J', BW.trans B'⟩
          | false =>
            have hne : 1 ≤ ns.length := by
              cases ns with
              | nil => cases hE
              | cons a l => show 1 ≤ l.length + 1; omega
            refine iteT ⟨_, rfl, j, 4, rfl, J5, by decide, by decide, fun c4 G6 hc4 J6 B6 => ⟨_, _, rfl, rfl, _, rfl, iteD (fun c0 => ?_) (fun c0 => ?_)⟩⟩
            · have nD : Ds ∉ [j] := by simpa using nDs
              refine ⟨_, rfl, _, rfl, j, Ds, _, rfl, J6, Or.inl (Or.inl (Or.inl (by rw [cut_out nD]; exact B6 _ _ nD hns5))), by rw [List.length_map]; exact hne, by rw [List.length_map]; omega, fun iw vw G7 hvw J7 B7 => ?_⟩
              obtain ⟨w, hw, rfl⟩ := one_int hvw
              have wb := nb w hw
              have B07 := (B5.trans B6).trans B7
              refine ⟨_, rfl, _, rfl, Or.inl ⟨_, rfl, _, _, rfl, rfl, _, _, rfl, h2, fun LW hLW => ?_⟩⟩
              have hM : 0 ≤ (if (w - 1 : Int) > 0 then (w - 1 : Int) else 0) ∧ (if (w - 1 : Int) > 0 then (w - 1 : Int) else 0) ≤ 10000000 := by
                have := wb
                split <;> omega
              generalize (if (w - 1 : Int) > 0 then (w - 1 : Int) else 0) = M at hLW hM ⊢
              have eW := Ex.new (o := .lst [V.int w, V.int M]) hLW
              have JW := J7.ex eW
              have BW := B07.trans (But.of eW)
              have gW : (upd G7 LW (.lst [V.int w, V.int M])) LW = some (.lst ([w, M].map V.int)) := upd_same
              have nW : LW ≠ j := J7.ne hLW
              generalize upd G7 LW (.lst [V.int w, V.int M]) = GW at JW BW gW ⊢
              refine ⟨LW, rfl, ⟨_, Or.inl (Or.inl gW)⟩, for_list (K := K) (a := LW) (xs := [w, M].map V.int) (fun i σ G' => ∃ w12 : Option V, σ = [some (V.ref j), some (V.ref a1), some (V.ref a2), some (V.int 0), some (V.ref a1), some (V.ref a2), some (V.int (n : Int)), some (V.ref Dc), none, some (V.ref Ds), none, some (V.int w), w12] ∧ Jar G' j ∧ But [j] GW G') ⟨_, rfl, JW, But.refl⟩ (fun i σ G' _ ⟨_, _, _, b'⟩ => Or.inl (Or.inl (b' _ _ (by simpa using nW) gW))) ?_ ?_⟩
              · rintro i y σ G' hy ⟨w12, rfl, J', B'⟩
                obtain ⟨ww, hww, rfl⟩ := one_int hy
                have wwb : 0 ≤ ww ∧ ww ≤ 10000000 := by
                  have := wb
                  simp only [List.mem_cons, List.not_mem_nil, or_false] at hww
                  omega
                have DD1 := (D1.up (BW.trans B').cut).up ex_cut
                have DD2 := (D2.up (BW.trans B').cut).up ex_cut
                refine ⟨_, rfl, _, rfl, _, rfl, _, rfl, _, rfl, .ref a1, .ref a2, .int ww, .int 0, .int (n : Int), barsD b1, barsD b2, .int ww, .int 0, .int (n : Int), rfl, DD1, DD2, .int _, .int _, .int _, ?_⟩
                rw [near_told0 ok1 ok2 wwb (by omega) (by omega) hx]
                intro vt Ga ea hvt
                have BA := (BW.trans B').trans (But.of ea)
                have DxA := (hDx.up BA.cut).up ex_cut
                refine ⟨_, rfl, _, rfl, a1, xs1, _, _, rfl, rfl, ex_t (BA.cut.trans ex_cut) hs1, at_of (by omega) hz, _, rfl, _, rfl, .ref u, .ref a2, x, b2, ww, rfl, DxA, (D2.up BA.cut).up ex_cut, by omega, fun Dl Gb eb hDl => ?_⟩
                refine ⟨Dl, _, rfl, Or.inl ⟨Or.inl (Or.inl hDl), fun tl htl => ?_⟩⟩
                have et := Ex.new (o := .tup ((nearL x b2 ww).map fun j => V.int (j : Nat))) htl
                refine ⟨vt, .ref tl, _, rfl, hvt.up (eb.trans et), .tup (Or.inl (Or.inl upd_same)) (dpAll_nats _), fits_nats (near_len (by omega)), fun Gc ec => ⟨_, rfl, iteF ⟨_, rfl, J'.ex (((ea.trans eb).trans et).trans ec), B'.trans (But.of (((ea.trans eb).trans et).trans ec))⟩⟩⟩
              · rintro σ G' ⟨w12, rfl, J', B'⟩
                exact ⟨_, _, _, _, _, rfl, J', BW.trans B'⟩
            · refine ⟨_, rfl, h4, fun L4 hL4 => ?_⟩
              have e6 := Ex.new (o := .lst [V.int 0, .int 1, .int 4, .int 10000000]) hL4
              refine ⟨j, L4, _, rfl, J6.ex e6, one_lst J6 hL4, by show 1 ≤ 4; decide, by show 4 < 1073741824; decide, fun iw vw G7 hvw J7 B7 => ?_⟩
              obtain ⟨w, hw, rfl⟩ := one_int (l := [0, 1, 4, 10000000]) hvw
              have wb : 0 ≤ w ∧ w ≤ 10000000 := by
                simp only [List.mem_cons, List.not_mem_nil, or_false] at hw
                omega
              have B07 := ((B5.trans B6).trans (But.of e6)).trans B7
              refine ⟨_, rfl, _, rfl, Or.inl ⟨_, rfl, _, _, rfl, rfl, _, _, rfl, h2, fun LW hLW => ?_⟩⟩
              have hM : 0 ≤ (if (w - 1 : Int) > 0 then (w - 1 : Int) else 0) ∧ (if (w - 1 : Int) > 0 then (w - 1 : Int) else 0) ≤ 10000000 := by
                have := wb
                split <;> omega
              generalize (if (w - 1 : Int) > 0 then (w - 1 : Int) else 0) = M at hLW hM ⊢
              have eW := Ex.new (o := .lst [V.int w, V.int M]) hLW
              have JW := J7.ex eW
              have BW := B07.trans (But.of eW)
              have gW : (upd G7 LW (.lst [V.int w, V.int M])) LW = some (.lst ([w, M].map V.int)) := upd_same
              have nW : LW ≠ j := J7.ne hLW
              generalize upd G7 LW (.lst [V.int w, V.int M]) = GW at JW BW gW ⊢
              refine ⟨LW, rfl, ⟨_, Or.inl (Or.inl gW)⟩, for_list (K := K) (a := LW) (xs := [w, M].map V.int) (fun i σ G' => ∃ w12 : Option V, σ = [some (V.ref j), some (V.ref a1), some (V.ref a2), some (V.int 0), some (V.ref a1), some (V.ref a2), some (V.int (n : Int)), some (V.ref Dc), none, some (V.ref Ds), none, some (V.int w), w12] ∧ Jar G' j ∧ But [j] GW G') ⟨_, rfl, JW, But.refl⟩ (fun i σ G' _ ⟨_, _, _, b'⟩ => Or.inl (Or.inl (b' _ _ (by simpa using nW) gW))) ?_ ?_⟩
              · rintro i y σ G' hy ⟨w12, rfl, J', B'⟩
                obtain ⟨ww, hww, rfl⟩ := one_int hy
                have wwb : 0 ≤ ww ∧ ww ≤ 10000000 := by
                  have := wb
                  simp only [List.mem_cons, List.not_mem_nil, or_false] at hww
                  omega
                have DD1 := (D1.up (BW.trans B').cut).up ex_cut
                have DD2 := (D2.up (BW.trans B').cut).up ex_cut
                refine ⟨_, rfl, _, rfl, _, rfl, _, rfl, _, rfl, .ref a1, .ref a2, .int ww, .int 0, .int (n : Int), barsD b1, barsD b2, .int ww, .int 0, .int (n : Int), rfl, DD1, DD2, .int _, .int _, .int _, ?_⟩
                rw [near_told0 ok1 ok2 wwb (by omega) (by omega) hx]
                intro vt Ga ea hvt
                have BA := (BW.trans B').trans (But.of ea)
                have DxA := (hDx.up BA.cut).up ex_cut
                refine ⟨_, rfl, _, rfl, a1, xs1, _, _, rfl, rfl, ex_t (BA.cut.trans ex_cut) hs1, at_of (by omega) hz, _, rfl, _, rfl, .ref u, .ref a2, x, b2, ww, rfl, DxA, (D2.up BA.cut).up ex_cut, by omega, fun Dl Gb eb hDl => ?_⟩
                refine ⟨Dl, _, rfl, Or.inl ⟨Or.inl (Or.inl hDl), fun tl htl => ?_⟩⟩
                have et := Ex.new (o := .tup ((nearL x b2 ww).map fun j => V.int (j : Nat))) htl
                refine ⟨vt, .ref tl, _, rfl, hvt.up (eb.trans et), .tup (Or.inl (Or.inl upd_same)) (dpAll_nats _), fits_nats (near_len (by omega)), fun Gc ec => ⟨_, rfl, iteF ⟨_, rfl, J'.ex (((ea.trans eb).trans et).trans ec), B'.trans (But.of (((ea.trans eb).trans et).trans ec))⟩⟩⟩
              · rintro σ G' ⟨w12, rfl, J', B'⟩
                exact ⟨_, _, _, _, _, rfl, J', BW.trans B'⟩
        · rintro σ G2 ⟨w6, w7, w9, w11, w12, rfl, J2, B2⟩
          exact ⟨_, _, _, _, _, _, _, _, rfl, J2, B2⟩
      · refine ⟨_, rfl, rfl, _, rfl, iteF ?_⟩
        refine ⟨_, rfl, _, rfl, h2, fun tp htp => ⟨tp, _, rfl, Or.inl (Or.inl upd_same), rfl, _, _, rfl, _, _, rfl, rfl, ?_⟩⟩
        have ep := Ex.new (o := .tup [V.ref a2, V.ref a1]) htp
        have J1 := J0.ex ep
        have B1 : But [j] HS (upd G0 tp (.tup [V.ref a2, V.ref a1])) := B0.trans (But.of ep)
        generalize upd G0 tp (.tup [V.ref a2, V.ref a1]) = G1 at J1 B1 ⊢
        refine ⟨_, rfl, a2, xs2, rfl, Or.inr (ex_t (B1.cut.trans ex_cut) hs2), _, rfl, by omega, by omega, for_range (lo := 0) (n := (xs2.length : Int).toNat) (fun n σ G => ∃ w6 w7 w9 w11 w12 : Option V, σ = [some (V.ref j), some (V.ref a1), some (V.ref a2), some (V.int 1), some (V.ref a2), some (V.ref a1), w6, w7, none, w9, none, w11, w12] ∧ Jar G j ∧ But [j] HS G) ⟨_, _, _, _, _, rfl, J1, B1⟩ ?_ ?_⟩
        · rintro n σ G2 hn ⟨w6, w7, w9, w11, w12, rfl, J2, B2⟩
          rw [Int.zero_add]
          have hn' : n < xs2.length := by omega
          obtain ⟨z, hz⟩ : ∃ z, xs2[n]? = some z := ⟨xs2[n], List.getElem?_eq_getElem hn'⟩
          obtain ⟨x, u, hx, rfl, hst, hDx⟩ := dp_bar_get ha2 hz
          have hsm2 := ex_t (B2.cut.trans ex_cut) hs2
          have hso2 := ex_t (B2.cut.trans ex_cut) hs1
          have hao2 := (ha1.up B2.cut).up ex_cut
          have hDx2 := (hDx.up B2.cut).up ex_cut
          -- costs
          refine ⟨_, rfl, a1, rfl, ⟨xs1, hso2⟩, fun Dc hDc => lc_tup (K := K) (a := a1) (xs := xs1) (fun i G => Ex G2 G ∧ G Dc = some (.lst ((b1.take i).map fun y => optV (costB x y)))) ⟨Ex.new hDc, upd_same⟩ (fun i G _ ⟨e, _⟩ => ex_t e hso2) ?_ ?_⟩
          · rintro i y G hy ⟨e, gc⟩
            obtain ⟨b, ub, hb, rfl, hstb, hDb⟩ := dp_bar_get hao2 hy
            have hi := (List.getElem?_eq_some_iff.mp hb).1
            refine ⟨rfl, ?_⟩
            unfold tYes
            dsimp only
            rw [if_pos rfl]
            refine ⟨_, rfl, _, rfl, a2, xs2, _, _, rfl, rfl, ex_t e hsm2, at_of (by omega) hz, _, rfl, .ref u, .ref ub, x, b, rfl, hDx2.up e, hDb.up e, _, gc, sz_lt (by rw [List.length_map, List.length_take]; omega), e.mut (p := Dc) hDc, ?_⟩
            rw [upd_same, take_at hb, List.map_append]
            rfl
          rintro G3 ⟨e3, gc⟩
          rw [show xs1.length = b1.length by omega, List.take_length] at gc
          -- some
          refine ⟨_, rfl, Dc, rfl, ⟨_, Or.inl (Or.inl gc)⟩, fun Ds hDs => lc_list (K := K) (a := Dc) (xs := b1.map fun y => optV (costB x y)) (fun i G => Ex G3 G ∧ ∃ ns : List Int, G Ds = some (.lst (ns.map V.int)) ∧ ns.length ≤ i ∧ ∀ n ∈ ns, 0 ≤ n ∧ n ≤ 10000000) ⟨Ex.new hDs, [], upd_same, Nat.le_refl _, fun n h => by cases h⟩ (fun i G _ ⟨e, _⟩ => Or.inl (Or.inl (e _ _ gc))) ?_ ?_⟩
          · rintro i y G hy ⟨e, ns, hns, nl, nb⟩
            rw [List.getElem?_map] at hy
            obtain ⟨b, hb, rfl⟩ := Option.map_eq_some_iff.mp hy
            have hi := (List.getElem?_eq_some_iff.mp hb).1
            cases hc : costB x b with
            | none => exact ⟨rfl, _, rfl, _, rfl, iteF (iteF ⟨e, ns, hns, by omega, nb⟩)⟩
            | some c =>
              have c0 := cost_pos hc
              refine ⟨rfl, _, rfl, _, rfl, iteT ⟨_, rfl, _, _, rfl, rfl, _, rfl, iteD (fun c1 => ?_) (fun c1 => ⟨e, ns, hns, by omega, nb⟩)⟩⟩
              refine ⟨_, rfl, Or.inl ⟨_, rfl, _, hns, sz_lt (by rw [List.length_map]; omega), e.mut (p := Ds) hDs, ns ++ [c], by rw [upd_same, List.map_append]; rfl, ?_, fun n hn => ?_⟩⟩
              · rw [List.length_append]
                show ns.length + 1 ≤ i + 1
                omega
              · rcases List.mem_append.mp hn with h | h
                · exact nb n h
                · rw [List.mem_singleton.mp h]
                  exact ⟨c0, c1⟩
          rintro G4 ⟨e4, ns, hns, nl, nb⟩
          rw [List.length_map] at nl
          -- w
          refine ⟨_, rfl, Nat.zero_le _, fun l0 hl0 => ?_⟩
          have e5 := Ex.new (o := .lst []) hl0
          refine ⟨.list (ns.map .int), .list [], .lst (Or.inl (Or.inl (e5 _ _ hns))) (dpAll_ints ns), .lst (Or.inl (Or.inl upd_same)) .nil, min_lnil _, _, rfl, ?_⟩
          rw [eqv_lnil]
          have e25 := (e3.trans e4).trans e5
          have J5 := J2.ex e25
          have B5 := B2.trans (But.of e25)
          have hns5 := e5 _ _ hns
          have nDs : Ds ≠ j := (J2.ex e3).ne hDs
          generalize upd G4 l0 (.lst []) = G5 at J5 B5 hns5 ⊢
          cases hE : (ns.map PyData.int).isEmpty with
          | true =>
            refine iteF (iteF ⟨_, rfl, h4, fun L4 hL4 => ?_⟩)
            have e6 := Ex.new (o := .lst [V.int 0, .int 1, .int 4, .int 10000000]) hL4
            refine ⟨j, L4, _, rfl, J5.ex e6, one_lst J5 hL4, by show 1 ≤ 4; decide, by show 4 < 1073741824; decide, fun iw vw G6 hvw J6 B6 => ?_⟩
            obtain ⟨w, hw, rfl⟩ := one_int (l := [0, 1, 4, 10000000]) hvw
            have wb : 0 ≤ w ∧ w ≤ 10000000 := by
              simp only [List.mem_cons, List.not_mem_nil, or_false] at hw
              omega
            have B06 := (B5.trans (But.of e6)).trans B6
            refine ⟨_, rfl, _, rfl, Or.inl ⟨_, rfl, _, _, rfl, rfl, _, _, rfl, h2, fun LW hLW => ?_⟩⟩
            have hM : 0 ≤ (if (w - 1 : Int) > 0 then (w - 1 : Int) else 0) ∧ (if (w - 1 : Int) > 0 then (w - 1 : Int) else 0) ≤ 10000000 := by
              have := wb
              split <;> omega
            generalize (if (w - 1 : Int) > 0 then (w - 1 : Int) else 0) = M at hLW hM ⊢
            have eW := Ex.new (o := .lst [V.int w, V.int M]) hLW
            have JW := J6.ex eW
            have BW := B06.trans (But.of eW)
            have gW : (upd G6 LW (.lst [V.int w, V.int M])) LW = some (.lst ([w, M].map V.int)) := upd_same
            have nW : LW ≠ j := J6.ne hLW
            generalize upd G6 LW (.lst [V.int w, V.int M]) = GW at JW BW gW ⊢
            refine ⟨LW, rfl, ⟨_, Or.inl (Or.inl gW)⟩, for_list (K := K) (a := LW) (xs := [w, M].map V.int) (fun i σ G' => ∃ w12 : Option V, σ = [some (V.ref j), some (V.ref a1), some (V.ref a2), some (V.int 1), some (V.ref a2), some (V.ref a1), some (V.int (n : Int)), some (V.ref Dc), none, some (V.ref Ds), none, some (V.int w), w12] ∧ Jar G' j ∧ But [j] GW G') ⟨_, rfl, JW, But.refl⟩ (fun i σ G' _ ⟨_, _, _, b'⟩ => Or.inl (Or.inl (b' _ _ (by simpa using nW) gW))) ?_ ?_⟩
            · rintro i y σ G' hy ⟨w12, rfl, J', B'⟩
              obtain ⟨ww, hww, rfl⟩ := one_int hy
              have wwb : 0 ≤ ww ∧ ww ≤ 10000000 := by
                have := wb
                simp only [List.mem_cons, List.not_mem_nil, or_false] at hww
                omega
              have DD1 := (D1.up (BW.trans B').cut).up ex_cut
              have DD2 := (D2.up (BW.trans B').cut).up ex_cut
              refine ⟨_, rfl, _, rfl, _, rfl, _, rfl, _, rfl, .ref a1, .ref a2, .int ww, .int 1, .int (n : Int), barsD b1, barsD b2, .int ww, .int 1, .int (n : Int), rfl, DD1, DD2, .int _, .int _, .int _, ?_⟩
              rw [near_told1 ok1 ok2 wwb (by omega) (by omega) hx]
              intro vt Ga ea hvt
              have BA := (BW.trans B').trans (But.of ea)
              have DxA := (hDx.up BA.cut).up ex_cut
              refine ⟨_, rfl, _, rfl, a2, xs2, _, _, rfl, rfl, ex_t (BA.cut.trans ex_cut) hs2, at_of (by omega) hz, _, rfl, _, rfl, .ref u, .ref a1, x, b1, ww, rfl, DxA, (D1.up BA.cut).up ex_cut, by omega, fun Dl Gb eb hDl => ?_⟩
              refine ⟨Dl, _, rfl, Or.inl ⟨Or.inl (Or.inl hDl), fun tl htl => ?_⟩⟩
              have et := Ex.new (o := .tup ((nearL x b1 ww).map fun j => V.int (j : Nat))) htl
              refine ⟨vt, .ref tl, _, rfl, hvt.up (eb.trans et), .tup (Or.inl (Or.inl upd_same)) (dpAll_nats _), fits_nats (near_len (by omega)), fun Gc ec => ⟨_, rfl, iteF ⟨_, rfl, J'.ex (((ea.trans eb).trans et).trans ec), B'.trans (But.of (((ea.trans eb).trans et).trans ec))⟩⟩⟩
            · rintro σ G' ⟨w12, rfl, J', B'⟩
              exact ⟨_, _, _, _, _, rfl, J', BW.trans B'⟩
          | false =>
            have hne : 1 ≤ ns.length := by
              cases ns with
              | nil => cases hE
              | cons a l => show 1 ≤ l.length + 1; omega
            refine iteT ⟨_, rfl, j, 4, rfl, J5, by decide, by decide, fun c4 G6 hc4 J6 B6 => ⟨_, _, rfl, rfl, _, rfl, iteD (fun c0 => ?_) (fun c0 => ?_)⟩⟩
            · have nD : Ds ∉ [j] := by simpa using nDs
              refine ⟨_, rfl, _, rfl, j, Ds, _, rfl, J6, Or.inl (Or.inl (Or.inl (by rw [cut_out nD]; exact B6 _ _ nD hns5))), by rw [List.length_map]; exact hne, by rw [List.length_map]; omega, fun iw vw G7 hvw J7 B7 => ?_⟩
              obtain ⟨w, hw, rfl⟩ := one_int hvw
              have wb := nb w hw
              have B07 := (B5.trans B6).trans B7
              refine ⟨_, rfl, _, rfl, Or.inl ⟨_, rfl, _, _, rfl, rfl, _, _, rfl, h2, fun LW hLW => ?_⟩⟩
              have hM : 0 ≤ (if (w - 1 : Int) > 0 then (w - 1 : Int) else 0) ∧ (if (w - 1 : Int) > 0 then (w - 1 : Int) else 0) ≤ 10000000 := by
                have := wb
                split <;> omega
              generalize (if (w - 1 : Int) > 0 then (w - 1 : Int) else 0) = M at hLW hM ⊢
              have eW := Ex.new (o := .lst [V.int w, V.int M]) hLW
              have JW := J7.ex eW
              have BW := B07.trans (But.of eW)
              have gW : (upd G7 LW (.lst [V.int w, V.int M])) LW = some (.lst ([w, M].map V.int)) := upd_same
              have nW : LW ≠ j := J7.ne hLW
              generalize upd G7 LW (.lst [V.int w, V.int M]) = GW at JW BW gW ⊢
              refine ⟨LW, rfl, ⟨_, Or.inl (Or.inl gW)⟩, for_list (K := K) (a := LW) (xs := [w, M].map V.int) (fun i σ G' => ∃ w12 : Option V, σ = [some (V.ref j), some (V.ref a1), some (V.ref a2), some (V.int 1), some (V.ref a2), some (V.ref a1), some (V.int (n : Int)), some (V.ref Dc), none, some (V.ref Ds), none, some (V.int w), w12] ∧ Jar G' j ∧ But [j] GW G') ⟨_, rfl, JW, But.refl⟩ (fun i σ G' _ ⟨_, _, _, b'⟩ => Or.inl (Or.inl (b' _ _ (by simpa using nW) gW))) ?_ ?_⟩
              · rintro i y σ G' hy ⟨w12, rfl, J', B'⟩
                obtain ⟨ww, hww, rfl⟩ := one_int hy
                have wwb : 0 ≤ ww ∧ ww ≤ 10000000 := by
                  have := wb
                  simp only [List.mem_cons, List.not_mem_nil, or_false] at hww
                  omega
                have DD1 := (D1.up (BW.trans B').cut).up ex_cut
                have DD2 := (D2.up (BW.trans B').cut).up ex_cut
                refine ⟨_, rfl, _, rfl, _, rfl, _, rfl, _, rfl, .ref a1, .ref a2, .int ww, .int 1, .int (n : Int), barsD b1, barsD b2, .int ww, .int 1, .int (n : Int), rfl, DD1, DD2, .int _, .int _, .int _, ?_⟩
                rw [near_told1 ok1 ok2 wwb (by omega) (by omega) hx]
                intro vt Ga ea hvt
                have BA := (BW.trans B').trans (But.of ea)
                have DxA := (hDx.up BA.cut).up ex_cut
                refine ⟨_, rfl, _, rfl, a2, xs2, _, _, rfl, rfl, ex_t (BA.cut.trans ex_cut) hs2, at_of (by omega) hz, _, rfl, _, rfl, .ref u, .ref a1, x, b1, ww, rfl, DxA, (D1.up BA.cut).up ex_cut, by omega, fun Dl Gb eb hDl => ?_⟩
                refine ⟨Dl, _, rfl, Or.inl ⟨Or.inl (Or.inl hDl), fun tl htl => ?_⟩⟩
                have et := Ex.new (o := .tup ((nearL x b1 ww).map fun j => V.int (j : Nat))) htl
                refine ⟨vt, .ref tl, _, rfl, hvt.up (eb.trans et), .tup (Or.inl (Or.inl upd_same)) (dpAll_nats _), fits_nats (near_len (by omega)), fun Gc ec => ⟨_, rfl, iteF ⟨_, rfl, J'.ex (((ea.trans eb).trans et).trans ec), B'.trans (But.of (((ea.trans eb).trans et).trans ec))⟩⟩⟩
              · rintro σ G' ⟨w12, rfl, J', B'⟩
                exact ⟨_, _, _, _, _, rfl, J', BW.trans B'⟩
            · refine ⟨_, rfl, h4, fun L4 hL4 => ?_⟩
              have e6 := Ex.new (o := .lst [V.int 0, .int 1, .int 4, .int 10000000]) hL4
              refine ⟨j, L4, _, rfl, J6.ex e6, one_lst J6 hL4, by show 1 ≤ 4; decide, by show 4 < 1073741824; decide, fun iw vw G7 hvw J7 B7 => ?_⟩
              obtain ⟨w, hw, rfl⟩ := one_int (l := [0, 1, 4, 10000000]) hvw
              have wb : 0 ≤ w ∧ w ≤ 10000000 := by
                simp only [List.mem_cons, List.not_mem_nil, or_false] at hw
                omega
              have B07 := ((B5.trans B6).trans (But.of e6)).trans B7
              refine ⟨_, rfl, _, rfl, Or.inl ⟨_, rfl, _, _, rfl, rfl, _, _, rfl, h2, fun LW hLW => ?_⟩⟩
              have hM : 0 ≤ (if (w - 1 : Int) > 0 then (w - 1 : Int) else 0) ∧ (if (w - 1 : Int) > 0 then (w - 1 : Int) else 0) ≤ 10000000 := by
                have := wb
                split <;> omega
              generalize (if (w - 1 : Int) > 0 then (w - 1 : Int) else 0) = M at hLW hM ⊢
              have eW := Ex.new (o := .lst [V.int w, V.int M]) hLW
              have JW := J7.ex eW
              have BW := B07.trans (But.of eW)
              have gW : (upd G7 LW (.lst [V.int w, V.int M])) LW = some (.lst ([w, M].map V.int)) := upd_same
              have nW : LW ≠ j := J7.ne hLW
              generalize upd G7 LW (.lst [V.int w, V.int M]) = GW at JW BW gW ⊢
              refine ⟨LW, rfl, ⟨_, Or.inl (Or.inl gW)⟩, for_list (K := K) (a := LW) (xs := [w, M].map V.int) (fun i σ G' => ∃ w12 : Option V, σ = [some (V.ref j), some (V.ref a1), some (V.ref a2), some (V.int 1), some (V.ref a2), some (V.ref a1), some (V.int (n : Int)), some (V.ref Dc), none, some (V.ref Ds), none, some (V.int w), w12] ∧ Jar G' j ∧ But [j] GW G') ⟨_, rfl, JW, But.refl⟩ (fun i σ G' _ ⟨_, _, _, b'⟩ => Or.inl (Or.inl (b' _ _ (by simpa using nW) gW))) ?_ ?_⟩
              · rintro i y σ G' hy ⟨w12, rfl, J', B'⟩
                obtain ⟨ww, hww, rfl⟩ := one_int hy
                have wwb : 0 ≤ ww ∧ ww ≤ 10000000 := by
                  have := wb
                  simp only [List.mem_cons, List.not_mem_nil, or_false] at hww
                  omega
                have DD1 := (D1.up (BW.trans B').cut).up ex_cut
                have DD2 := (D2.up (BW.trans B').cut).up ex_cut
                refine ⟨_, rfl, _, rfl, _, rfl, _, rfl, _, rfl, .ref a1, .ref a2, .int ww, .int 1, .int (n : Int), barsD b1, barsD b2, .int ww, .int 1, .int (n : Int), rfl, DD1, DD2, .int _, .int _, .int _, ?_⟩
                rw [near_told1 ok1 ok2 wwb (by omega) (by omega) hx]
                intro vt Ga ea hvt
                have BA := (BW.trans B').trans (But.of ea)
                have DxA := (hDx.up BA.cut).up ex_cut
                refine ⟨_, rfl, _, rfl, a2, xs2, _, _, rfl, rfl, ex_t (BA.cut.trans ex_cut) hs2, at_of (by omega) hz, _, rfl, _, rfl, .ref u, .ref a1, x, b1, ww, rfl, DxA, (D1.up BA.cut).up ex_cut, by omega, fun Dl Gb eb hDl => ?_⟩
                refine ⟨Dl, _, rfl, Or.inl ⟨Or.inl (Or.inl hDl), fun tl htl => ?_⟩⟩
                have et := Ex.new (o := .tup ((nearL x b1 ww).map fun j => V.int (j : Nat))) htl
                refine ⟨vt, .ref tl, _, rfl, hvt.up (eb.trans et), .tup (Or.inl (Or.inl upd_same)) (dpAll_nats _), fits_nats (near_len (by omega)), fun Gc ec => ⟨_, rfl, iteF ⟨_, rfl, J'.ex (((ea.trans eb).trans et).trans ec), B'.trans (But.of (((ea.trans eb).trans et).trans ec))⟩⟩⟩
              · rintro σ G' ⟨w12, rfl, J', B'⟩
                exact ⟨_, _, _, _, _, rfl, J', BW.trans B'⟩
        · rintro σ G2 ⟨w6, w7, w9, w11, w12, rfl, J2, B2⟩
          exact ⟨_, _, _, _, _, _, _, _, rfl, J2, B2⟩
    · rintro σ G ⟨w3, w4, w5, w6, w7, w9, w11, w12, rfl, J0, B0⟩
      exact q G J0 (BS.trans B0)
end
end K22
end
section
set_option pp.maxSteps 400
set_option Elab.async false
set_option linter.all false
set_option maxRecDepth 100000
set_option maxHeartbeats 4000000
namespace K22
open PySem PySem.Spec PyProof.Rows L2 LB LamX Evl
abbrev qRef : Str := "_law_bl_refused_right.<locals>.<lambda>"
def spRefR (K : PySem.W.Frag) (TT : List (Addr × Str)) : Sp := fun vs H Q _ => ∃ (j : Addr) (v1 v2 : V) (b1 b2 : List Bar), vs = [.ref j, v1, v2] ∧ Jar H j ∧ Tabs TT H ∧ Dp K (cut [j] H) v1 (barsD b1) ∧ Dp K (cut [j] H) v2 (barsD b2) ∧ BarsOk b1 ∧ BarsOk b2 ∧ b1.length ≤ 13 ∧ b2.length ≤ 13 ∧ ∀ H', Gs j TT H H' → Q (.bl true) H'
/-- data without lists -/
def nl : Nat → PyData → Bool
  | 0, _ => false
  | n + 1, .tuple ds => ds.all (nl n)
  | _ + 1, .list _ => false
  | _ + 1, .dict _ => false
  | _ + 1, _ => true
mutual
theorem dp_nl {K : PySem.W.Frag} {H : Hp} {L : Addr} {ys : List V} (hL : H L = some (.lst ys)) : ∀ (d : PyData) (n : Nat) (v : V), nl n d = true → Dp K H v d → Dp K (cut [L] H) v d
  | _, 0, _, h, _ => by cases h
  | .none, n + 1, _, _, h => by cases h; exact .non
  | .bool b, n + 1, _, _, h => by cases h; exact .bl b
  | .int i, n + 1, _, _, h => by cases h; exact .int i
  | .str x, n + 1, _, _, h => by cases h; exact .str x
  | .list ds, n + 1, _, h, _ => by cases h
  | .dict ds, n + 1, _, h, _ => by cases h
  | .tuple ds, n + 1, _, hn, h => by
    cases h with
    | tup hs ha =>
      refine .tup ?_ (dpAll_nl hL ds n _ hn ha)
      rcases hs with hs | hs
      · refine Or.inl ?_
        rcases hs with hs | ⟨o, hs⟩
        · refine Or.inl ?_
          rw [cut_out]
          · exact hs
          · intro z
            rw [List.mem_singleton.mp z, hL] at hs
            cases hs
        · refine Or.inr ⟨o, ?_⟩
          rw [cut_out]
          · exact hs
          · intro z
            rw [List.mem_singleton.mp z, hL] at hs
            cases hs
      · exact Or.inr hs
theorem dpAll_nl {K : PySem.W.Frag} {H : Hp} {L : Addr} {ys : List V} (hL : H L = some (.lst ys)) : ∀ (ds : List PyData) (n : Nat) (vs : List V), ds.all (nl n) = true → DpAll K H vs ds → DpAll K (cut [L] H) vs ds
  | [], _, _, _, h => by cases h; exact .nil
  | d :: ds, n, _, hn, h => by
    cases h with
    | cons h1 h2 =>
      rw [List.all_cons, Bool.and_eq_true] at hn
      exact .cons (dp_nl hL d n _ hn.1 h1) (dpAll_nl hL ds n _ hn.2 h2)
end
/-- the rows that are told so far, at LT -/
structure ToldSt (K : PySem.W.Frag) (TT : List (Addr × Str)) (LT : Addr) (G0 G : Hp) (items : List V) (rows : List PyData) : Prop where
  e : ExtN G0 G
  tab : Tabs TT G
  here : G LT = some (.lst items)
  all : DpAll K (cut [LT] G) items rows
  n0 : G0 LT = none
theorem extN_mut {H0 H : Hp} {p : Addr} {o : HO} (e : ExtN H0 H) (h : H0 p = none) : ExtN H0 (upd H p o) := fun a u ha n => by
  rw [upd_ne (ne_of_none ha h)]
  exact e a u ha n
theorem extN_cutL {S : List Addr} {H H' : Hp} (e : ExtN H H') : ExtN (cut S H) (cut S H') := fun c o hc t => by
  obtain ⟨n, q⟩ := cut_some hc
  rw [cut_out n]
  exact e c o q t
theorem ToldSt.ex {K : PySem.W.Frag} {TT : List (Addr × Str)} {LT : Addr} {G0 G G' : Hp} {items : List V} {rows : List PyData} (t : ToldSt K TT LT G0 G items rows) (e : Ex G G') : ToldSt K TT LT G0 G' items rows :=
  ⟨t.e.trans (ExtN.of e), t.tab.ext e, e _ _ t.here, t.all.up (But.of e).cut, t.n0⟩
theorem told_step {K : PySem.W.Frag} {mg : Str → Option Value} {CR : Addr} {cl : Str → Addr} {TT : List (Addr × Str)} {LT : Addr} {G0 G : Hp} {items : List V} {rows : List PyData} {σ : L2.St} {D : Ends} {t : XK → TE} {i : Nat} (R : RefN K mg CR cl cls4) (hσ : σ[i]? = some (some (.ref LT))) (st : ToldSt K TT LT G0 G items rows)
    (o : Out) (ho : o.ok) (hn : nl 4 o.row = true) (hl : items.length ≤ 20) (run : ∀ G1, ExtN G G1 → ∀ (Q' : VK) (E : XK), outE K cl o G1 Q' E → t E σ G1 Q')
    (next : ∀ (p : Addr) (G2 : Hp), ToldSt K TT LT G0 G2 (items ++ [.ref p]) (rows ++ [o.row]) → (∀ b u, b ≠ LT → G b = some u → (∀ ps, u ≠ .tbl ps) → G2 b = some u) → D.nx σ G2) : tDrop (tBM K "list" rAppend (tVar i) (tCons (tLam TT (TTsaid K CR cl) t) tNil)) D σ G := by
  refine ⟨_, hσ, Or.inl ⟨rfl, _, Or.inl (Or.inl st.here)⟩, ?_⟩
  refine row_out R st.tab o ho run (fun p H' eN T' hp hD => ?_)
  have hLT := eN _ _ st.here (fun ps z => by cases z)
  have npL : p ≠ LT := fun z => by
    obtain ⟨x, y, hp⟩ := hp
    rw [z, hLT] at hp
    cases hp
  have bp : But [LT] H' (upd H' LT (.lst (items ++ [.ref p]))) := But.put (by simp)
  refine ⟨LT, items, _, rfl, rfl, hLT, sz_lt (by omega), next p _ ⟨extN_mut (st.e.trans eN) st.n0, ?_, upd_same, ?_, st.n0⟩ fun b u n hb nt => ?_⟩
  · exact tabs_but (H' := upd H' LT (.lst (items ++ [.ref p]))) T' bp hLT
  · refine DpAll.app ((dpAll_extN (extN_cutL eN) _ _ st.all).up bp.cut) (.cons ?_ .nil)
    exact (dp_nl hLT _ 4 _ hn hD).up bp.cut
  · rw [upd_ne n]
    exact eN _ _ hb nt
/-! ### what is refused -/
theorem odd5 : ∀ d ∈ oddW 0 5, wholeB d 0 5 = false ∧ fits 2 d = true ∧ nl 3 d = true := by decide +kernel
theorem oddS : ∀ d ∈ oddW 0 4000000, wholeB d 0 4000000 = false ∧ fits 2 d = true ∧ nl 3 d = true ∧ wholeB (earlyD d) 9 4000000 = false ∧ fits 2 (earlyD d) = true ∧ nl 3 (earlyD d) = true := by decide +kernel
theorem oddN : ∀ d ∈ oddW 0 79, wholeB d 0 79 = false ∧ fits 2 d = true ∧ nl 3 d = true := by decide +kernel
theorem oddWd : ∀ d ∈ oddW 0 10000000, wholeB d 0 10000000 = false ∧ fits 2 d = true ∧ nl 3 d = true := by decide +kernel
theorem oddSd : ∀ d ∈ oddW 0 1, wholeB d 0 1 = false ∧ fits 2 d = true ∧ nl 3 d = true := by decide +kernel
theorem cnt_1 {bs : List Bar} {dk ds dt : PyData} (ok : BarsOk bs) (h : wholeB dk 0 5 = false) : oCount (barsD bs) dk ds dt = .bad "BadMany" dk := by
  unfold oCount
  rw [oBars_ok ok]
  unfold oMany
  rw [h]
  rfl
theorem cnt_2 {bs : List Bar} {dk ds dt : PyData} (ok : BarsOk bs) (hk : wholeB dk 0 5 = true) (h : wholeB ds 0 4000000 = false) : oCount (barsD bs) dk ds dt = .bad "BadMany" ds := by
  unfold oCount
  rw [oBars_ok ok]
  unfold oMany
  rw [hk, h]
  rfl
theorem cnt_3 {bs : List Bar} {dk ds dt : PyData} (ok : BarsOk bs) (hk : wholeB dk 0 5 = true) (hs : wholeB ds 0 4000000 = true) (h : wholeB dt (intOf ds) 4000000 = false) : oCount (barsD bs) dk ds dt = .bad "BadMany" dt := by
  unfold oCount
  rw [oBars_ok ok]
  unfold oMany
  rw [hk, hs, h]
  rfl
theorem cnt_0 {d dk ds dt : PyData} {p : Str × Int} (h : faultD d = some p) : oCount d dk ds dt = .bad p.1 (.int p.2) := by
  unfold oCount oBars
  rw [h]
theorem shf_1 {bs : List Bar} {dx : PyData} (ok : BarsOk bs) (h : wholeB dx 0 4000000 = false) : oShift (barsD bs) dx = .bad "BadMany" dx := by
  unfold oShift
  rw [oBars_ok ok]
  unfold oMany
  rw [h]
  rfl
theorem shf_0 {d dx : PyData} {p : Str × Int} (h : faultD d = some p) : oShift d dx = .bad p.1 (.int p.2) := by
  unfold oShift oBars
  rw [h]
theorem nr_1 {b1 b2 : List Bar} {dw ds dn : PyData} (ok1 : BarsOk b1) (ok2 : BarsOk b2) (h : wholeB dw 0 10000000 = false) : oNear (barsD b1) (barsD b2) dw ds dn = .bad "BadMany" dw := by
  unfold oNear oWide
  rw [oBars_ok ok1, oBars_ok ok2]
  unfold oMany
  rw [h]
  rfl
theorem nr_2 {b1 b2 : List Bar} {dw ds dn : PyData} (ok1 : BarsOk b1) (ok2 : BarsOk b2) (hw : wholeB dw 0 10000000 = true) (h : wholeB ds 0 1 = false) : oNear (barsD b1) (barsD b2) dw ds dn = .bad "BadMany" ds := by
  unfold oNear oWide
  rw [oBars_ok ok1, oBars_ok ok2]
  unfold oMany
  rw [hw, h]
  rfl
theorem nr_3 {b1 b2 : List Bar} {dw ds dn : PyData} (ok1 : BarsOk b1) (ok2 : BarsOk b2) (hw : wholeB dw 0 10000000 = true) (hs : wholeB ds 0 1 = true) (h : wholeB dn 0 79 = false) : oNear (barsD b1) (barsD b2) dw ds dn = .bad "BadMany" dn := by
  unfold oNear oWide
  rw [oBars_ok ok1, oBars_ok ok2]
  unfold oMany
  rw [hw, hs, h]
  rfl
theorem nr_4 {b1 b2 : List Bar} (ok1 : BarsOk b1) (ok2 : BarsOk b2) (h : b1.length ≤ 79) : oNear (barsD b1) (barsD b2) (.int 4) (.int 0) (.int (b1.length : Nat)) = .bad "BadIndex" (.int (b1.length : Nat)) := by
  rw [near_gen ok1 ok2 (by decide) (by decide) h, if_pos rfl, if_pos (Nat.le_refl _)]
theorem nr_0 {d d2 dw ds dn : PyData} {p : Str × Int} (h : faultD d = some p) : oNear d d2 dw ds dn = .bad p.1 (.int p.2) := by
  unfold oNear oWide oBars
  rw [h]
theorem nr_00 {b1 : List Bar} {d dw ds dn : PyData} {p : Str × Int} (ok1 : BarsOk b1) (h : faultD d = some p) : oNear (barsD b1) d dw ds dn = .bad p.1 (.int p.2) := by
  unfold oNear oWide
  rw [oBars_ok ok1]
  unfold oBars
  rw [h]
theorem fault_in {d : PyData} {p : Str × Int} (h : faultD d = some p) : p.1 ∈ cls4 := by
  rcases fault_cls h with e | e <;> rw [e] <;> decide
theorem row_nl {c : Str} {d : PyData} (h : nl 3 d = true) : nl 4 (Out.bad c d).row = true := by
  show (true && (nl 3 d && true)) = true
  rw [h]
  rfl
theorem row_fits {c : Str} {d : PyData} (h : fits 2 d = true) : fits 3 (Out.bad c d).row = true := by
  show (decide _ && (true && (fits 2 d && true))) = true
  rw [h]
  rfl
theorem fits_listL {n : Nat} {ds : List PyData} (h : ∀ d ∈ ds, fits n d = true) (hl : ds.length ≤ 100000) : fits (n + 1) (.list ds) = true := by
  show (decide _ && List.all _ _) = true
  rw [Bool.and_eq_true, decide_eq_true_eq, List.all_eq_true]
  exact ⟨hl, h⟩
theorem dp_row {K : PySem.W.Frag} {H : Hp} {t : Addr} {c : Str} {v : V} {d : PyData} (ht : H t = some (.tup [.str c, v])) (hd : Dp K H v d) : Dp K H (.ref t) (Out.bad c d).row := .tup (Or.inl (Or.inl ht)) (.cons (.str _) (.cons hd .nil))
theorem ToldSt.dp {K : PySem.W.Frag} {TT : List (Addr × Str)} {LT : Addr} {G0 G : Hp} {items : List V} {rows : List PyData} (t : ToldSt K TT LT G0 G items rows) : Dp K G (.ref LT) (.list rows) := .lst (Or.inl (Or.inl t.here)) (t.all.up ex_cut)
theorem sz_lit {n : Nat} (h : n ≤ 100) : n ≤ sizeLine := by
  rw [sizeLine_eq]
  omega

section
variable {P : Program} {w : World} {K : PySem.W.Frag} {mg : Str → Option Value} {base : Heap} {cl : Str → Addr} {CR : Addr}
theorem ok_refused_right {c cs PT : Addr} {TT : List (Addr × Str)} (D : DnL K mg "_law_bl_refused_right" s_law_bl_refused_right ["jar", "one", "two"] c) (DS : DnL K mg "_law_bl_said" s_law_bl_said ["asked"] cs) (T : Bt mg) (TB : TabB base mg c PT) (hmT : (PT, qRef) ∈ TT) (hu : ∀ p ∈ TT, p.1 = PT → p.2 = qRef) (R : RefN K mg CR cl cls4)
    (f_law_bent : Cal P w K mg base 6 "_law_bent" (spBent K 3)) (f_law_odd_whole : Cal P w K mg base 3 "_law_odd_whole" (spOdd K)) (f_law_mt_fault : Cal P w K mg base 3 "_law_mt_fault" (spFault K)) (f_law_like : Cal P w K mg base 6 "_law_like" (spLike K 4)) (f_law_bl_early : Cal P w K mg base 2 "_law_bl_early" (spEarly K))
    (f_count_on : CalX P w K mg base 5 "count_on" (spCount K cl)) (f_shifted : CalX P w K mg base 5 "shifted" (spShift K cl)) (f_near_of : CalX P w K mg base 6 "near_of" (spNearOf K cl)) :
    Cal P w K mg base 9 "_law_bl_refused_right" (spRefR K TT) := by
  obtain ⟨fs, oc, od, dV, kV, doc, pm, an, ct, osl, lk, hcd, hks, hms, hbs⟩ := DS.ex
  refine calL_of D sc_law_bl_refused_right (fun vs H Q E h => ?_) (fun f A outer s H vs Q E hr h => ?_)
  · obtain ⟨j, v1, v2, b1, b2, rfl, _⟩ := h
    rfl
  · obtain ⟨j, v1, v2, b1, b2, rfl, J, hT, D1, D2, ok1, ok2, l1, l2, q⟩ := h
    refine ⟨_, (pss_cons (ps_asg (pe_tup (pa_cons (LB.pe_c f_law_bent hr (by decide) (by rfl) (pa_cons (pv 0) (pa_cons (pe_op op_catA (pv 1) (pe_tup (pa_cons (pe_tup (pa_cons pe_int (pa_cons pe_int (pa_cons pe_int pa_nil)))) pa_nil))) pa_nil))) (pa_cons (LB.pe_c f_law_odd_whole hr (by decide) (by rfl) (pa_cons (pv 0) (pa_cons pe_int (pa_cons pe_int pa_nil)))) pa_nil))) (pg_tup rfl (pgs_cons (pg_name (i := 3) sc_law_bl_refused_right.nd rfl (Or.inr rfl)) (pgs_cons (pg_name (i := 4) sc_law_bl_refused_right.nd rfl (Or.inr rfl)) pgs_nil))))
      (pss_cons (ps_asg (pe_tup (pa_cons (LB.pe_c f_law_mt_fault hr (by decide) (by rfl) (pa_cons (pv 3) pa_nil)) (pa_cons (LB.pe_c f_law_odd_whole hr (by decide) (by rfl) (pa_cons (pv 0) (pa_cons pe_int (pa_cons pe_int pa_nil)))) pa_nil))) (pg_tup rfl (pgs_cons (pg_name (i := 5) sc_law_bl_refused_right.nd rfl (Or.inl rfl)) (pgs_cons (pg_name (i := 6) sc_law_bl_refused_right.nd rfl (Or.inr rfl)) pgs_nil))))
      (pss_cons (ps_asg (pe_tup (pa_cons (LB.pe_c f_law_odd_whole hr (by decide) (by rfl) (pa_cons (pv 0) (pa_cons pe_int (pa_cons pe_int pa_nil)))) (pa_cons (LB.pe_c f_law_odd_whole hr (by decide) (by rfl) (pa_cons (pv 0) (pa_cons pe_int (pa_cons pe_int pa_nil)))) (pa_cons (LB.pe_c f_law_odd_whole hr (by decide) (by rfl) (pa_cons (pv 0) (pa_cons pe_int (pa_cons pe_int pa_nil)))) pa_nil)))) (pg_tup rfl (pgs_cons (pg_name (i := 7) sc_law_bl_refused_right.nd rfl (Or.inr rfl)) (pgs_cons (pg_name (i := 8) sc_law_bl_refused_right.nd rfl (Or.inr rfl)) (pgs_cons (pg_name (i := 9) sc_law_bl_refused_right.nd rfl (Or.inr rfl)) pgs_nil)))))
      (pss_cons (ps_set (i := 10) sc_law_bl_refused_right.nd rfl (Or.inl rfl) (pe_lst (pa_cons (pe_lamcallN (T := TT) (TT := TTsaid K CR cl) (k := 6) (Ng := ["asked", "refused_one", "rows", "row"]) (t := fun E => tCall (spCount K cl) [] E (tCons (tVar 1) (tCons (tVar 4) (tCons (tVar 6) (tCons (tVar 6) tNil))))) (by rfl) hms hks lk hcd hbs sc_law_bl_said rfl (Or.inl rfl) (said_gives R.hR R.hB T.m_isinstance) TB rfl hmT hu hr (lamS_by (by show lamSB (defScope s_law_bl_refused_right) _ = true; decide +kernel)) (by rfl) (fun _ _ _ _ _ => rfl)
            (fun A' outer' s' H' E' f' c' hr' => LB.pe_cE (L2N.takes_of rfl rfl rfl rfl) f_count_on hr' (by decide) (by rfl) (pa_cons (pv 1) (pa_cons (pv 4) (pa_cons (pv 6) (pa_cons (pv 6) pa_nil)))))) pa_nil)))
      (pss_cons (ps_expr (pe_bm PySem.F.plainAttrs_list PySem.F.slot_list_append PySem.F.type_list_append mt_append (pv 10) (pa_cons (pe_lamcallN (T := TT) (TT := TTsaid K CR cl) (k := 6) (Ng := ["asked", "refused_one", "rows", "row"]) (t := fun E => tCall (spCount K cl) [] E (tCons (tVar 1) (tCons (tC (.int 0)) (tCons (tVar 6) (tCons (tVar 6) tNil))))) (by rfl) hms hks lk hcd hbs sc_law_bl_said rfl (Or.inl rfl) (said_gives R.hR R.hB T.m_isinstance) TB rfl hmT hu hr (lamS_by (by show lamSB (defScope s_law_bl_refused_right) _ = true; decide +kernel)) (by rfl) (fun _ _ _ _ _ => rfl)
            (fun A' outer' s' H' E' f' c' hr' => LB.pe_cE (L2N.takes_of rfl rfl rfl rfl) f_count_on hr' (by decide) (by rfl) (pa_cons (pv 1) (pa_cons pe_int (pa_cons (pv 6) (pa_cons (pv 6) pa_nil)))))) pa_nil)))
      (pss_cons (ps_expr (pe_bm PySem.F.plainAttrs_list PySem.F.slot_list_append PySem.F.type_list_append mt_append (pv 10) (pa_cons (pe_lamcallN (T := TT) (TT := TTsaid K CR cl) (k := 6) (Ng := ["asked", "refused_one", "rows", "row"]) (t := fun E => tCall (spCount K cl) [] E (tCons (tVar 1) (tCons (tC (.int 0)) (tCons (tC (.int 9)) (tCons (tCall (spEarly K) [] E0 (tCons (tVar 6) tNil)) tNil))))) (by rfl) hms hks lk hcd hbs sc_law_bl_said rfl (Or.inl rfl) (said_gives R.hR R.hB T.m_isinstance) TB rfl hmT hu hr (lamS_by (by show lamSB (defScope s_law_bl_refused_right) _ = true; decide +kernel)) (by rfl) (fun _ _ _ _ _ => rfl)
            (fun A' outer' s' H' E' f' c' hr' => LB.pe_cE (L2N.takes_of rfl rfl rfl rfl) f_count_on hr' (by decide) (by rfl) (pa_cons (pv 1) (pa_cons pe_int (pa_cons pe_int (pa_cons (LB.pe_c f_law_bl_early hr' (by decide) (by rfl) (pa_cons (pv 6) pa_nil)) pa_nil)))))) pa_nil)))
      (pss_cons (ps_expr (pe_bm PySem.F.plainAttrs_list PySem.F.slot_list_append PySem.F.type_list_append mt_append (pv 10) (pa_cons (pe_lamcallN (T := TT) (TT := TTsaid K CR cl) (k := 6) (Ng := ["asked", "refused_one", "rows", "row"]) (t := fun E => tCall (spShift K cl) [] E (tCons (tVar 1) (tCons (tVar 6) tNil))) (by rfl) hms hks lk hcd hbs sc_law_bl_said rfl (Or.inl rfl) (said_gives R.hR R.hB T.m_isinstance) TB rfl hmT hu hr (lamS_by (by show lamSB (defScope s_law_bl_refused_right) _ = true; decide +kernel)) (by rfl) (fun _ _ _ _ _ => rfl)
            (fun A' outer' s' H' E' f' c' hr' => LB.pe_cE (L2N.takes_of rfl rfl rfl rfl) f_shifted hr' (by decide) (by rfl) (pa_cons (pv 1) (pa_cons (pv 6) pa_nil)))) pa_nil)))
      (pss_cons (ps_expr (pe_bm PySem.F.plainAttrs_list PySem.F.slot_list_append PySem.F.type_list_append mt_append (pv 10) (pa_cons (pe_lamcallN (T := TT) (TT := TTsaid K CR cl) (k := 6) (Ng := ["asked", "refused_one", "rows", "row"]) (t := fun E => tCall (spNearOf K cl) [] E (tCons (tVar 1) (tCons (tVar 2) (tCons (tVar 8) (tCons (tVar 9) (tCons (tVar 7) tNil)))))) (by rfl) hms hks lk hcd hbs sc_law_bl_said rfl (Or.inl rfl) (said_gives R.hR R.hB T.m_isinstance) TB rfl hmT hu hr (lamS_by (by show lamSB (defScope s_law_bl_refused_right) _ = true; decide +kernel)) (by rfl) (fun _ _ _ _ _ => rfl)
            (fun A' outer' s' H' E' f' c' hr' => LB.pe_cE (L2N.takes_of rfl rfl rfl rfl) f_near_of hr' (by decide) (by rfl) (pa_cons (pv 1) (pa_cons (pv 2) (pa_cons (pv 8) (pa_cons (pv 9) (pa_cons (pv 7) pa_nil))))))) pa_nil)))
      (pss_cons (ps_expr (pe_bm PySem.F.plainAttrs_list PySem.F.slot_list_append PySem.F.type_list_append mt_append (pv 10) (pa_cons (pe_lamcallN (T := TT) (TT := TTsaid K CR cl) (k := 6) (Ng := ["asked", "refused_one", "rows", "row"]) (t := fun E => tCall (spNearOf K cl) [] E (tCons (tVar 1) (tCons (tVar 2) (tCons (tC (.int 4)) (tCons (tVar 9) (tCons (tVar 7) tNil)))))) (by rfl) hms hks lk hcd hbs sc_law_bl_said rfl (Or.inl rfl) (said_gives R.hR R.hB T.m_isinstance) TB rfl hmT hu hr (lamS_by (by show lamSB (defScope s_law_bl_refused_right) _ = true; decide +kernel)) (by rfl) (fun _ _ _ _ _ => rfl)
            (fun A' outer' s' H' E' f' c' hr' => LB.pe_cE (L2N.takes_of rfl rfl rfl rfl) f_near_of hr' (by decide) (by rfl) (pa_cons (pv 1) (pa_cons (pv 2) (pa_cons pe_int (pa_cons (pv 9) (pa_cons (pv 7) pa_nil))))))) pa_nil)))
      (pss_cons (ps_expr (pe_bm PySem.F.plainAttrs_list PySem.F.slot_list_append PySem.F.type_list_append mt_append (pv 10) (pa_cons (pe_lamcallN (T := TT) (TT := TTsaid K CR cl) (k := 6) (Ng := ["asked", "refused_one", "rows", "row"]) (t := fun E => tCall (spNearOf K cl) [] E (tCons (tVar 1) (tCons (tVar 2) (tCons (tC (.int 4)) (tCons (tC (.int 1)) (tCons (tVar 7) tNil)))))) (by rfl) hms hks lk hcd hbs sc_law_bl_said rfl (Or.inl rfl) (said_gives R.hR R.hB T.m_isinstance) TB rfl hmT hu hr (lamS_by (by show lamSB (defScope s_law_bl_refused_right) _ = true; decide +kernel)) (by rfl) (fun _ _ _ _ _ => rfl)
            (fun A' outer' s' H' E' f' c' hr' => LB.pe_cE (L2N.takes_of rfl rfl rfl rfl) f_near_of hr' (by decide) (by rfl) (pa_cons (pv 1) (pa_cons (pv 2) (pa_cons pe_int (pa_cons pe_int (pa_cons (pv 7) pa_nil))))))) pa_nil)))
      (pss_cons (ps_expr (pe_bm PySem.F.plainAttrs_list PySem.F.slot_list_append PySem.F.type_list_append mt_append (pv 10) (pa_cons (pe_lamcallN (T := TT) (TT := TTsaid K CR cl) (k := 6) (Ng := ["asked", "refused_one", "rows", "row"]) (t := fun E => tCall (spNearOf K cl) [] E (tCons (tVar 1) (tCons (tVar 2) (tCons (tC (.int 4)) (tCons (tC (.int 0)) (tCons (tCB (rLenQ K) (tCons (tVar 1) tNil)) tNil)))))) (by rfl) hms hks lk hcd hbs sc_law_bl_said rfl (Or.inl rfl) (said_gives R.hR R.hB T.m_isinstance) TB rfl hmT hu hr (lamS_by (by show lamSB (defScope s_law_bl_refused_right) _ = true; decide +kernel)) (by rfl) (fun _ _ _ _ _ => rfl)
            (fun A' outer' s' H' E' f' c' hr' => LB.pe_cE (L2N.takes_of rfl rfl rfl rfl) f_near_of hr' (by decide) (by rfl) (pa_cons (pv 1) (pa_cons (pv 2) (pa_cons pe_int (pa_cons pe_int (pa_cons (pe_callB (callK_len (K := K) rfl) (by rfl) T.m_len PySem.boot_len (pa_cons (pv 1) pa_nil)) pa_nil))))))) pa_nil)))
      (pss_cons (ps_set (i := 11) sc_law_bl_refused_right.nd rfl (Or.inl rfl) (pe_lst (pa_cons (pe_tup (pa_cons pe_str (pa_cons (pv 4) pa_nil))) (pa_cons (pe_tup (pa_cons pe_str (pa_cons (pv 6) pa_nil))) (pa_cons (pe_tup (pa_cons pe_str (pa_cons (LB.pe_c f_law_bl_early hr (by decide) (by rfl) (pa_cons (pv 6) pa_nil)) pa_nil))) (pa_cons (pe_tup (pa_cons pe_str (pa_cons (pv 6) pa_nil))) (pa_cons (pe_tup (pa_cons pe_str (pa_cons (pv 8) pa_nil))) pa_nil)))))))
      (pss_cons (ps_set (i := 11) sc_law_bl_refused_right.nd rfl (Or.inl rfl) (pe_op op_cat (pv 11) (pe_lst (pa_cons (pe_tup (pa_cons pe_str (pa_cons (pv 9) pa_nil))) (pa_cons (pe_tup (pa_cons pe_str (pa_cons (pv 7) pa_nil))) (pa_cons (pe_tup (pa_cons pe_str (pa_cons (pe_callB call_len_seq (by rfl) T.m_len PySem.boot_len (pa_cons (pv 1) pa_nil)) pa_nil))) pa_nil))))))
      (pss_cons (ps_if (pt_cmp (pc_notN (pv 5)) rfl) (pss_cons (ps_expr (pe_bm PySem.F.plainAttrs_list PySem.F.slot_list_append PySem.F.type_list_append mt_append (pv 10) (pa_cons (pe_lamcallN (T := TT) (TT := TTsaid K CR cl) (k := 6) (Ng := ["asked", "refused_one", "rows", "row"]) (t := fun E => tCall (spCount K cl) [] E (tCons (tVar 3) (tCons (tVar 4) (tCons (tVar 6) (tCons (tVar 6) tNil))))) (by rfl) hms hks lk hcd hbs sc_law_bl_said rfl (Or.inl rfl) (said_gives R.hR R.hB T.m_isinstance) TB rfl hmT hu hr (lamS_by (by show lamSB (defScope s_law_bl_refused_right) _ = true; decide +kernel)) (by rfl) (fun _ _ _ _ _ => rfl)
            (fun A' outer' s' H' E' f' c' hr' => LB.pe_cE (L2N.takes_of rfl rfl rfl rfl) f_count_on hr' (by decide) (by rfl) (pa_cons (pv 3) (pa_cons (pv 4) (pa_cons (pv 6) (pa_cons (pv 6) pa_nil)))))) pa_nil)))
      (pss_cons (ps_expr (pe_bm PySem.F.plainAttrs_list PySem.F.slot_list_append PySem.F.type_list_append mt_append (pv 10) (pa_cons (pe_lamcallN (T := TT) (TT := TTsaid K CR cl) (k := 6) (Ng := ["asked", "refused_one", "rows", "row"]) (t := fun E => tCall (spNearOf K cl) [] E (tCons (tVar 3) (tCons (tC .non) (tCons (tVar 8) (tCons (tVar 9) (tCons (tVar 7) tNil)))))) (by rfl) hms hks lk hcd hbs sc_law_bl_said rfl (Or.inl rfl) (said_gives R.hR R.hB T.m_isinstance) TB rfl hmT hu hr (lamS_by (by show lamSB (defScope s_law_bl_refused_right) _ = true; decide +kernel)) (by rfl) (fun _ _ _ _ _ => rfl)
            (fun A' outer' s' H' E' f' c' hr' => LB.pe_cE (L2N.takes_of rfl rfl rfl rfl) f_near_of hr' (by decide) (by rfl) (pa_cons (pv 3) (pa_cons pe_non (pa_cons (pv 8) (pa_cons (pv 9) (pa_cons (pv 7) pa_nil))))))) pa_nil)))
      (pss_cons (ps_expr (pe_bm PySem.F.plainAttrs_list PySem.F.slot_list_append PySem.F.type_list_append mt_append (pv 10) (pa_cons (pe_lamcallN (T := TT) (TT := TTsaid K CR cl) (k := 6) (Ng := ["asked", "refused_one", "rows", "row"]) (t := fun E => tCall (spNearOf K cl) [] E (tCons (tVar 1) (tCons (tVar 3) (tCons (tVar 8) (tCons (tVar 9) (tCons (tVar 7) tNil)))))) (by rfl) hms hks lk hcd hbs sc_law_bl_said rfl (Or.inl rfl) (said_gives R.hR R.hB T.m_isinstance) TB rfl hmT hu hr (lamS_by (by show lamSB (defScope s_law_bl_refused_right) _ = true; decide +kernel)) (by rfl) (fun _ _ _ _ _ => rfl)
            (fun A' outer' s' H' E' f' c' hr' => LB.pe_cE (L2N.takes_of rfl rfl rfl rfl) f_near_of hr' (by decide) (by rfl) (pa_cons (pv 1) (pa_cons (pv 3) (pa_cons (pv 8) (pa_cons (pv 9) (pa_cons (pv 7) pa_nil))))))) pa_nil)))
      (pss_cons (ps_expr (pe_bm PySem.F.plainAttrs_list PySem.F.slot_list_append PySem.F.type_list_append mt_append (pv 10) (pa_cons (pe_lamcallN (T := TT) (TT := TTsaid K CR cl) (k := 6) (Ng := ["asked", "refused_one", "rows", "row"]) (t := fun E => tCall (spShift K cl) [] E (tCons (tVar 3) (tCons (tVar 6) tNil))) (by rfl) hms hks lk hcd hbs sc_law_bl_said rfl (Or.inl rfl) (said_gives R.hR R.hB T.m_isinstance) TB rfl hmT hu hr (lamS_by (by show lamSB (defScope s_law_bl_refused_right) _ = true; decide +kernel)) (by rfl) (fun _ _ _ _ _ => rfl)
            (fun A' outer' s' H' E' f' c' hr' => LB.pe_cE (L2N.takes_of rfl rfl rfl rfl) f_shifted hr' (by decide) (by rfl) (pa_cons (pv 3) (pa_cons (pv 6) pa_nil)))) pa_nil)))
      (pss_one (ps_set (i := 11) sc_law_bl_refused_right.nd rfl (Or.inl rfl) (pe_op op_cat (pv 11) (pe_op op_rep (pe_lst (pa_cons (pv 5) pa_nil)) pe_int)))))))) pss_nil)
      (pss_one (ps_ret (LB.pe_c f_law_like hr (by decide) (by rfl) (pa_cons (pv 10) (pa_cons (pv 11) pa_nil))))))))))))))))))), ?_⟩

    have h1 : 1 ≤ sizeLine := by decide
    have h2 : 2 ≤ sizeLine := by decide
    have h3 : 3 ≤ sizeLine := by decide
    have h5 : 5 ≤ sizeLine := by decide
    obtain ⟨a1, xs1, rfl, hs1, ha1⟩ := dp_bars D1
    have hx1 : xs1.length = b1.length := by rw [ha1.len, List.length_map]
    refine ⟨_, rfl, _, rfl, h3, fun t1 ht1 => ⟨h1, fun t2 ht2 => ?_⟩⟩
    have w1 := Ex.new (o := .tup [V.int 1, .int 2, .int 3]) ht1
    have w2 := Ex.new (o := .tup [V.ref t1]) ht2
    have JJ := J.ex (w1.trans w2)
    have Dt1 : Dp K (cut [j] (upd H t1 (.tup [V.int 1, .int 2, .int 3]))) (.ref t1) (barD (1, 2, 3)) := bar_new (by simpa using J.ne ht1) _ _ _
    have S0 := ex_t ((But.of (S := [j]) (w1.trans w2)).cut) hs1
    refine cat_to JJ S0 (cut_new (J.ex w1) ht2) (by show xs1.length + 1 ≤ 100000; omega) fun p1 H3 e3 s3 => ?_
    have B03 : But [j] H H3 := But.of ((w1.trans w2).trans e3)
    have J3 := J.ex ((w1.trans w2).trans e3)
    have A3 : DpAll K (cut [j] H3) (xs1 ++ [.ref t1]) ((b1 ++ [((1, 2, 3) : Bar)]).map barD) := by
      rw [List.map_append]
      exact (ha1.up B03.cut).app (.cons (Dt1.up (But.of (w2.trans e3)).cut) .nil)
    have sm2 : smalls 3 (barsD (b1 ++ [((1, 2, 3) : Bar)])) = true := small_bars (fun x hx => (List.mem_append.mp hx).elim (ok1.good x) fun z => by rw [List.mem_singleton.mp z]; decide) (by rw [List.length_append]; show b1.length + 1 ≤ 1000; omega)
    refine ⟨j, .ref p1, barsD (b1 ++ [((1, 2, 3) : Bar)]), rfl, J3, .tup s3 A3, sm2, fun vB dB H4 fB J4 B4 DB => ?_⟩
    have B04 := B03.trans B4
    clear B03 A3 J3 S0 Dt1 JJ w1 w2 s3 e3
    refine ⟨_, rfl, j, 0, 5, rfl, J4, fun vF dF H5 hdF J5 B5 DF => ?_⟩
    refine ⟨h2, fun tp htp => ⟨tp, _, rfl, Or.inl (Or.inl upd_same), rfl, _, _, rfl, _, _, rfl, rfl, ?_⟩⟩
    have ep := Ex.new (o := .tup [vB, vF]) htp
    have J6 := J5.ex ep
    have B6 : But [j] H5 (upd H5 tp (.tup [vB, vF])) := But.of ep
    generalize upd H5 tp (.tup [vB, vF]) = H6 at J6 B6 ⊢
    have B06 := (B04.trans B5).trans B6
    replace D1 := D1.up B06.cut
    replace D2 := D2.up B06.cut
    replace hs1 := ex_t B06.cut hs1
    replace DB := DB.up (B5.trans B6).cut
    replace DF := DF.up B6.cut
    obtain ⟨wF, fF, nF⟩ := odd5 dF hdF
    clear B04 B4 B5 B6 ep hdF
    refine ⟨_, rfl, vB, dB, rfl, DB.up ex_cut, fun hnone H7 e7 => ?_, fun p hp tf H7 e7 htf => ?_⟩
    · skip
      have J7 := J6.ex e7
      have B7 : But [j] H6 H7 := But.of e7
      refine ⟨_, rfl, j, 0, 4000000, rfl, J7, fun vS dS H8 hdS J8 B8 DS => ?_⟩
      refine ⟨h2, fun tq htq => ⟨tq, _, rfl, Or.inl (Or.inl upd_same), rfl, _, _, rfl, _, _, rfl, rfl, ?_⟩⟩
      have eq := Ex.new (o := .tup [.non, vS]) htq
      have J9 := J8.ex eq
      have B9 : But [j] H8 (upd H8 tq (.tup [.non, vS])) := But.of eq
      generalize upd H8 tq (.tup [.non, vS]) = H9 at J9 B9 ⊢
      have B09 := (B7.trans B8).trans B9
      refine ⟨_, rfl, j, 0, 79, rfl, J9, fun vN dN HA hdN JA BA DN => ?_⟩
      refine ⟨_, rfl, j, 0, 10000000, rfl, JA, fun vW dW HB hdW JB BB DW => ?_⟩
      refine ⟨_, rfl, j, 0, 1, rfl, JB, fun vD dD HC hdD JC BC DD => ?_⟩
      refine ⟨h3, fun tr htr => ⟨tr, _, rfl, Or.inl (Or.inl upd_same), rfl, _, _, rfl, _, _, rfl, _, _, rfl, rfl, ?_⟩⟩
      have er := Ex.new (o := .tup [vN, vW, vD]) htr
      have JE := JC.ex er
      have BE : But [j] HC (upd HC tr (.tup [vN, vW, vD])) := But.of er
      generalize upd HC tr (.tup [vN, vW, vD]) = HE at JE BE ⊢
      have BBE := BC.trans BE
      have BAE := BB.trans BBE
      have B9E := BA.trans BAE
      have B8E := B9.trans B9E
      have B6E := (B7.trans B8).trans B8E
      have gE : Gs j TT H HE := (Gs.here J hT).but JE (B06.trans B6E)
      replace D1 := (D1.up B6E.cut).up ex_cut
      replace D2 := (D2.up B6E.cut).up ex_cut
      replace hs1 := ex_t (B6E.cut.trans ex_cut) hs1
      replace DB := (DB.up B6E.cut).up ex_cut
      replace DF := (DF.up B6E.cut).up ex_cut
      replace DS := (DS.up B8E.cut).up ex_cut
      replace DN := (DN.up BAE.cut).up ex_cut
      replace DW := (DW.up BBE.cut).up ex_cut
      replace DD := (DD.up BE.cut).up ex_cut

      obtain ⟨wS, fS, nS, wE, fE, nE⟩ := oddS dS hdS
      obtain ⟨wN, fN, nN⟩ := oddN dN hdN
      obtain ⟨wW, fW, nW⟩ := oddWd dW hdW
      obtain ⟨wD, fD, nD⟩ := oddSd dD hdD
      clear er eq BBE BAE B9E B8E B6E B09 BA BB BC BE B7 B8 B9 hdS hdN hdW hdD
      -- told, the first row

      refine row_out R gE.tab (.bad "BadMany" dF) (by show ("BadMany" : Str) ∈ cls4; decide) (fun G1 eN Q' E' hq => ⟨_, rfl, _, rfl, _, rfl, _, rfl, .ref a1, vF, vS, vS, barsD b1, dF, dS, dS, rfl, dp_extN (eN) _ _ D1, dp_extN (eN) _ _ DF, dp_extN (eN) _ _ DS, dp_extN (eN) _ _ DS, by rw [cnt_1 ok1 wF]; exact hq⟩) (fun p1 H5 eN T5 hp1 dp1 => ⟨h1, fun LT hLT => ?_⟩)
      have g5 := gE.extN eN T5
      have eLT := Ex.new (o := .lst [V.ref p1]) hLT
      have st1 : ToldSt K TT LT H5 (upd H5 LT (.lst [V.ref p1])) [.ref p1] [(Out.bad "BadMany" dF).row] := ⟨ExtN.of eLT, T5.ext eLT, upd_same, .cons (dp_nl (upd_same (H := H5)) _ 4 _ (row_nl nF) (dp1.up eLT)) .nil, hLT⟩
      have nLTj : LT ≠ j := g5.jar.ne hLT
      replace D1 := dp_extN eN _ _ D1
      replace D2 := dp_extN eN _ _ D2
      replace DB := dp_extN eN _ _ DB
      replace DF := dp_extN eN _ _ DF
      replace DS := dp_extN eN _ _ DS
      replace DN := dp_extN eN _ _ DN
      replace DW := dp_extN eN _ _ DW
      replace DD := dp_extN eN _ _ DD
      replace hs1 := extN_t eN hs1
      clear eLT dp1 hp1
      generalize upd H5 LT (.lst [V.ref p1]) = G1 at st1 ⊢

      refine told_step (o := .bad "BadMany" dS) R rfl st1 (by show ("BadMany" : Str) ∈ cls4; decide) (row_nl nS) (by simp) (fun G1' eN Q' E' hq => ⟨_, rfl, _, rfl, _, rfl, .ref a1, .int 0, vS, vS, barsD b1, .int 0, dS, dS, rfl, dp_extN (st1.e.trans eN) _ _ D1, .int _, dp_extN (st1.e.trans eN) _ _ DS, dp_extN (st1.e.trans eN) _ _ DS, by rw [cnt_2 ok1 (by decide) wS]; exact hq⟩) (fun p2 G2 st2 _ => ?_)

      refine told_step (o := .bad "BadMany" (earlyD dS)) R rfl st2 (by show ("BadMany" : Str) ∈ cls4; decide) (row_nl nE) (by simp) (fun G1' eN Q' E' hq => ⟨_, rfl, _, rfl, vS, dS, rfl, dp_extN (st2.e.trans eN) _ _ DS, fun vE DE => ⟨.ref a1, .int 0, .int 9, vE, barsD b1, .int 0, .int 9, earlyD dS, rfl, dp_extN (st2.e.trans eN) _ _ D1, .int _, .int _, DE, by rw [cnt_3 ok1 (by decide) (by decide) wE]; exact hq⟩⟩) (fun p3 G3 st3 _ => ?_)

      refine told_step (o := .bad "BadMany" dS) R rfl st3 (by show ("BadMany" : Str) ∈ cls4; decide) (row_nl nS) (by simp) (fun G1' eN Q' E' hq => ⟨_, rfl, _, rfl, .ref a1, vS, barsD b1, dS, rfl, dp_extN (st3.e.trans eN) _ _ D1, dp_extN (st3.e.trans eN) _ _ DS, by rw [shf_1 ok1 wS]; exact hq⟩) (fun p4 G4 st4 _ => ?_)

      refine told_step (o := .bad "BadMany" dW) R rfl st4 (by show ("BadMany" : Str) ∈ cls4; decide) (row_nl nW) (by simp) (fun G1' eN Q' E' hq => ⟨_, rfl, _, rfl, _, rfl, _, rfl, _, rfl, .ref a1, v2, vW, vD, vN, barsD b1, barsD b2, dW, dD, dN, rfl, dp_extN (st4.e.trans eN) _ _ D1, dp_extN (st4.e.trans eN) _ _ D2, dp_extN (st4.e.trans eN) _ _ DW, dp_extN (st4.e.trans eN) _ _ DD, dp_extN (st4.e.trans eN) _ _ DN, by rw [nr_1 ok1 ok2 wW]; exact hq⟩) (fun p5 G5 st5 _ => ?_)

      refine told_step (o := .bad "BadMany" dD) R rfl st5 (by show ("BadMany" : Str) ∈ cls4; decide) (row_nl nD) (by simp) (fun G1' eN Q' E' hq => ⟨_, rfl, _, rfl, _, rfl, _, rfl, .ref a1, v2, .int 4, vD, vN, barsD b1, barsD b2, .int 4, dD, dN, rfl, dp_extN (st5.e.trans eN) _ _ D1, dp_extN (st5.e.trans eN) _ _ D2, .int _, dp_extN (st5.e.trans eN) _ _ DD, dp_extN (st5.e.trans eN) _ _ DN, by rw [nr_2 ok1 ok2 (by decide) wD]; exact hq⟩) (fun p6 G6 st6 _ => ?_)

      refine told_step (o := .bad "BadMany" dN) R rfl st6 (by show ("BadMany" : Str) ∈ cls4; decide) (row_nl nN) (by simp) (fun G1' eN Q' E' hq => ⟨_, rfl, _, rfl, _, rfl, .ref a1, v2, .int 4, .int 1, vN, barsD b1, barsD b2, .int 4, .int 1, dN, rfl, dp_extN (st6.e.trans eN) _ _ D1, dp_extN (st6.e.trans eN) _ _ D2, .int _, .int _, dp_extN (st6.e.trans eN) _ _ DN, by rw [nr_3 ok1 ok2 (by decide) (by decide) wN]; exact hq⟩) (fun p7 G7 st7 _ => ?_)

      refine told_step (o := .bad "BadIndex" (.int (b1.length : Nat))) R rfl st7 (by show ("BadIndex" : Str) ∈ cls4; decide) (row_nl rfl) (by simp) (fun G1' eN Q' E' hq => ⟨_, rfl, _, rfl, _, rfl, a1, xs1, rfl, Or.inr (extN_t (st7.e.trans eN) hs1), by
            rw [hx1]
            exact ⟨.ref a1, v2, .int 4, .int 0, .int (b1.length : Nat), barsD b1, barsD b2, .int 4, .int 0, .int (b1.length : Nat), rfl, dp_extN (st7.e.trans eN) _ _ D1, dp_extN (st7.e.trans eN) _ _ D2, .int _, .int _, .int _, by rw [nr_4 ok1 ok2 (by omega)]; exact hq⟩⟩) (fun p8 G8 st8 _ => ?_)

      have DX1 := dp_extN st8.e _ _ DF
      have DX2 := dp_extN st8.e _ _ DS
      have DX5 := dp_extN st8.e _ _ DW
      have DX6 := dp_extN st8.e _ _ DD
      have DX7 := dp_extN st8.e _ _ DN
      have S8 := extN_t st8.e hs1
      refine ⟨_, rfl, h2, fun d1 g1 => ⟨_, rfl, h2, fun d2 g2 => ⟨_, rfl, vS, dS, rfl, (DX2.up (Ex.new g1)).up (Ex.new g2), fun vE DE => ⟨h2, fun d3 g3 => ⟨_, rfl, h2, fun d4 g4 => ⟨_, rfl, h2, fun d5 g5' => ⟨h5, fun DU gU => ?_⟩⟩⟩⟩⟩⟩⟩
      have y1 := Ex.new (o := .tup [.str "BadMany", vF]) g1
      have y2 := Ex.new (o := .tup [.str "BadMany", vS]) g2
      have y3 := Ex.new (o := .tup [.str "BadMany", vE]) g3
      have y4 := Ex.new (o := .tup [.str "BadMany", vS]) g4
      have y5 := Ex.new (o := .tup [.str "BadMany", vW]) g5'
      have yU := Ex.new (o := .lst [V.ref d1, .ref d2, .ref d3, .ref d4, .ref d5]) gU
      have z2 := y1.trans y2
      have z3 := z2.trans y3
      have z4 := z3.trans y4
      have z5 := z4.trans y5
      have zU := z5.trans yU
      have A5 : DpAll K _ [V.ref d1, .ref d2, .ref d3, .ref d4, .ref d5] [(Out.bad "BadMany" dF).row, (Out.bad "BadMany" dS).row, (Out.bad "BadMany" (earlyD dS)).row, (Out.bad "BadMany" dS).row, (Out.bad "BadMany" dW).row] :=
        .cons ((dp_row upd_same (DX1.up y1)).up (y2.trans (y3.trans (y4.trans (y5.trans yU))))) (.cons ((dp_row upd_same (DX2.up z2)).up (y3.trans (y4.trans (y5.trans yU)))) (.cons ((dp_row upd_same (DE.up y3)).up (y4.trans (y5.trans yU))) (.cons ((dp_row upd_same (DX2.up z4)).up (y5.trans yU)) (.cons ((dp_row upd_same (DX5.up z5)).up yU) .nil))))
      have gDU := @upd_same (upd (upd (upd (upd (upd G8 d1 (.tup [.str "BadMany", vF])) d2 (.tup [.str "BadMany", vS])) d3 (.tup [.str "BadMany", vE])) d4 (.tup [.str "BadMany", vS])) d5 (.tup [.str "BadMany", vW])) DU (.lst [V.ref d1, .ref d2, .ref d3, .ref d4, .ref d5])
      have st9 := st8.ex zU
      replace DX6 := DX6.up zU
      replace DX7 := DX7.up zU
      replace S8 := ex_t zU S8
      clear y1 y2 y3 y4 y5 yU z2 z3 z4 z5 zU DX1 DX2 DX5 DE
      generalize upd (upd (upd (upd (upd (upd G8 d1 (.tup [.str "BadMany", vF])) d2 (.tup [.str "BadMany", vS])) d3 (.tup [.str "BadMany", vE])) d4 (.tup [.str "BadMany", vS])) d5 (.tup [.str "BadMany", vW])) DU (.lst [V.ref d1, .ref d2, .ref d3, .ref d4, .ref d5]) = G9 at A5 gDU st9 DX6 DX7 S8 ⊢
      clear g1 g2 g3 g4 g5' gU
      refine ⟨_, rfl, _, rfl, h2, fun d6 g6 => ⟨_, rfl, h2, fun d7 g7 => ⟨_, rfl, a1, xs1, rfl, Or.inr (ex_t ((Ex.new g6).trans (Ex.new g7)) S8), h2, fun d8 g8 => ⟨h3, fun DV gV => ⟨DU, DV, _, _, rfl, rfl, (Ex.new gV) _ _ ((Ex.new g8) _ _ ((Ex.new g7) _ _ ((Ex.new g6) _ _ gDU))), upd_same, sz_lit (by simp), fun DX gX => ?_⟩⟩⟩⟩⟩
      have y6 := Ex.new (o := .tup [.str "BadMany", vD]) g6
      have y7 := Ex.new (o := .tup [.str "BadMany", vN]) g7
      have y8 := Ex.new (o := .tup [.str "BadIndex", .int (xs1.length : Nat)]) g8
      have yV := Ex.new (o := .lst [V.ref d6, .ref d7, .ref d8]) gV
      have yX := Ex.new (o := .lst ([V.ref d1, .ref d2, .ref d3, .ref d4, .ref d5] ++ [V.ref d6, .ref d7, .ref d8])) gX
      have z7 := y6.trans y7
      have zX := ((z7.trans y8).trans yV).trans yX
      have A8 := (A5.up zX).app (.cons ((dp_row upd_same (DX6.up y6)).up (((y7.trans y8).trans yV).trans yX)) (.cons ((dp_row upd_same (DX7.up z7)).up ((y8.trans yV).trans yX)) (.cons ((dp_row (c := "BadIndex") (d := .int (b1.length : Nat)) upd_same (by rw [hx1]; exact .int _)).up (yV.trans yX)) .nil)))
      have gDX := @upd_same (upd (upd (upd (upd G9 d6 (.tup [.str "BadMany", vD])) d7 (.tup [.str "BadMany", vN])) d8 (.tup [.str "BadIndex", .int (xs1.length : Nat)])) DV (.lst [V.ref d6, .ref d7, .ref d8])) DX (.lst ([V.ref d1, .ref d2, .ref d3, .ref d4, .ref d5] ++ [V.ref d6, .ref d7, .ref d8]))
      have stX := st9.ex zX
      have nDX : DX ≠ LT := fun z => by
        have q1 := ((z7.trans y8).trans yV) _ _ st9.here
        rw [← z, gX] at q1
        cases q1
      clear y6 y7 y8 yV yX z7 zX
      generalize upd (upd (upd (upd (upd G9 d6 (.tup [.str "BadMany", vD])) d7 (.tup [.str "BadMany", vN])) d8 (.tup [.str "BadIndex", .int (xs1.length : Nat)])) DV (.lst [V.ref d6, .ref d7, .ref d8])) DX (.lst ([V.ref d1, .ref d2, .ref d3, .ref d4, .ref d5] ++ [V.ref d6, .ref d7, .ref d8])) = GX at A8 gDX stX ⊢
      have fits8 : ∀ d ∈ ([(Out.bad "BadMany" dF).row, (Out.bad "BadMany" dS).row, (Out.bad "BadMany" (earlyD dS)).row, (Out.bad "BadMany" dS).row, (Out.bad "BadMany" dW).row] ++ [(Out.bad "BadMany" dD).row, (Out.bad "BadMany" dN).row, (Out.bad "BadIndex" (.int (b1.length : Nat))).row] : List PyData), fits 3 d = true := fun d hd => by
        simp only [List.mem_append, List.mem_cons, List.not_mem_nil, or_false] at hd
        rcases hd with (rfl | rfl | rfl | rfl | rfl) | (rfl | rfl | rfl)
        · exact row_fits fF
        · exact row_fits fS
        · exact row_fits fE
        · exact row_fits fS
        · exact row_fits fW
        · exact row_fits fD
        · exact row_fits fN
        · rfl
      have gend : ∀ {G : Hp} {its : List V} {rows : List PyData}, ToldSt K TT LT H5 G its rows → ∀ H', Ex G H' → Gs j TT H H' := fun {G its rows} s H' e =>
        g5.sub ⟨by
          obtain ⟨x, y, hj, hv⟩ := g5.jar
          exact ⟨x, y, e _ _ (s.e _ _ hj (fun ps z => by cases z)), hv⟩, s.tab.ext e, (BN.extN s.e).trans (.ex e)⟩
      refine ⟨_, rfl, _, rfl, iteF ?_⟩
      exact ⟨_, rfl, _, rfl, .ref LT, .ref DX, _, rfl, stX.dp, .lst (Or.inl (Or.inl gDX)) A8, fits_listL fits8 (by simp), fun H' e => q H' (gend stX H' e)⟩
    · skip
      have ntf : tf ≠ j := fun z => by
        obtain ⟨x, y, hj, _⟩ := J6.ex e7
        rw [z, hj] at htf
        cases htf
      have DT : Dp K (cut [j] H7) (.ref tf) (.tuple [.str p.1, .int p.2]) := .tup (Or.inl (Or.inl (by rw [cut_out (by simpa using ntf)]; exact htf))) (.cons (.str _) (.cons (.int _) .nil))

      have J7 := J6.ex e7
      have B7 : But [j] H6 H7 := But.of e7
      refine ⟨_, rfl, j, 0, 4000000, rfl, J7, fun vS dS H8 hdS J8 B8 DS => ?_⟩
      refine ⟨h2, fun tq htq => ⟨tq, _, rfl, Or.inl (Or.inl upd_same), rfl, _, _, rfl, _, _, rfl, rfl, ?_⟩⟩
      have eq := Ex.new (o := .tup [.ref tf, vS]) htq
      have J9 := J8.ex eq
      have B9 : But [j] H8 (upd H8 tq (.tup [.ref tf, vS])) := But.of eq
      generalize upd H8 tq (.tup [.ref tf, vS]) = H9 at J9 B9 ⊢
      have B09 := (B7.trans B8).trans B9
      refine ⟨_, rfl, j, 0, 79, rfl, J9, fun vN dN HA hdN JA BA DN => ?_⟩
      refine ⟨_, rfl, j, 0, 10000000, rfl, JA, fun vW dW HB hdW JB BB DW => ?_⟩
      refine ⟨_, rfl, j, 0, 1, rfl, JB, fun vD dD HC hdD JC BC DD => ?_⟩
      refine ⟨h3, fun tr htr => ⟨tr, _, rfl, Or.inl (Or.inl upd_same), rfl, _, _, rfl, _, _, rfl, _, _, rfl, rfl, ?_⟩⟩
      have er := Ex.new (o := .tup [vN, vW, vD]) htr
      have JE := JC.ex er
      have BE : But [j] HC (upd HC tr (.tup [vN, vW, vD])) := But.of er
      generalize upd HC tr (.tup [vN, vW, vD]) = HE at JE BE ⊢
      have BBE := BC.trans BE
      have BAE := BB.trans BBE
      have B9E := BA.trans BAE
      have B8E := B9.trans B9E
      have B6E := (B7.trans B8).trans B8E
      have gE : Gs j TT H HE := (Gs.here J hT).but JE (B06.trans B6E)
      replace D1 := (D1.up B6E.cut).up ex_cut
      replace D2 := (D2.up B6E.cut).up ex_cut
      replace hs1 := ex_t (B6E.cut.trans ex_cut) hs1
      replace DB := (DB.up B6E.cut).up ex_cut
      replace DF := (DF.up B6E.cut).up ex_cut
      replace DS := (DS.up B8E.cut).up ex_cut
      replace DN := (DN.up BAE.cut).up ex_cut
      replace DW := (DW.up BBE.cut).up ex_cut
      replace DD := (DD.up BE.cut).up ex_cut
      replace DT := (DT.up (B8.trans B8E).cut).up ex_cut

      obtain ⟨wS, fS, nS, wE, fE, nE⟩ := oddS dS hdS
      obtain ⟨wN, fN, nN⟩ := oddN dN hdN
      obtain ⟨wW, fW, nW⟩ := oddWd dW hdW
      obtain ⟨wD, fD, nD⟩ := oddSd dD hdD
      clear er eq BBE BAE B9E B8E B6E B09 BA BB BC BE B7 B8 B9 hdS hdN hdW hdD
      -- told, the first row

      refine row_out R gE.tab (.bad "BadMany" dF) (by show ("BadMany" : Str) ∈ cls4; decide) (fun G1 eN Q' E' hq => ⟨_, rfl, _, rfl, _, rfl, _, rfl, .ref a1, vF, vS, vS, barsD b1, dF, dS, dS, rfl, dp_extN (eN) _ _ D1, dp_extN (eN) _ _ DF, dp_extN (eN) _ _ DS, dp_extN (eN) _ _ DS, by rw [cnt_1 ok1 wF]; exact hq⟩) (fun p1 H5 eN T5 hp1 dp1 => ⟨h1, fun LT hLT => ?_⟩)
      have g5 := gE.extN eN T5
      have eLT := Ex.new (o := .lst [V.ref p1]) hLT
      have st1 : ToldSt K TT LT H5 (upd H5 LT (.lst [V.ref p1])) [.ref p1] [(Out.bad "BadMany" dF).row] := ⟨ExtN.of eLT, T5.ext eLT, upd_same, .cons (dp_nl (upd_same (H := H5)) _ 4 _ (row_nl nF) (dp1.up eLT)) .nil, hLT⟩
      have nLTj : LT ≠ j := g5.jar.ne hLT
      replace D1 := dp_extN eN _ _ D1
      replace D2 := dp_extN eN _ _ D2
      replace DB := dp_extN eN _ _ DB
      replace DF := dp_extN eN _ _ DF
      replace DS := dp_extN eN _ _ DS
      replace DN := dp_extN eN _ _ DN
      replace DW := dp_extN eN _ _ DW
      replace DD := dp_extN eN _ _ DD
      replace DT := dp_extN eN _ _ DT
      replace hs1 := extN_t eN hs1
      clear eLT dp1 hp1
      generalize upd H5 LT (.lst [V.ref p1]) = G1 at st1 ⊢

      refine told_step (o := .bad "BadMany" dS) R rfl st1 (by show ("BadMany" : Str) ∈ cls4; decide) (row_nl nS) (by simp) (fun G1' eN Q' E' hq => ⟨_, rfl, _, rfl, _, rfl, .ref a1, .int 0, vS, vS, barsD b1, .int 0, dS, dS, rfl, dp_extN (st1.e.trans eN) _ _ D1, .int _, dp_extN (st1.e.trans eN) _ _ DS, dp_extN (st1.e.trans eN) _ _ DS, by rw [cnt_2 ok1 (by decide) wS]; exact hq⟩) (fun p2 G2 st2 _ => ?_)

      refine told_step (o := .bad "BadMany" (earlyD dS)) R rfl st2 (by show ("BadMany" : Str) ∈ cls4; decide) (row_nl nE) (by simp) (fun G1' eN Q' E' hq => ⟨_, rfl, _, rfl, vS, dS, rfl, dp_extN (st2.e.trans eN) _ _ DS, fun vE DE => ⟨.ref a1, .int 0, .int 9, vE, barsD b1, .int 0, .int 9, earlyD dS, rfl, dp_extN (st2.e.trans eN) _ _ D1, .int _, .int _, DE, by rw [cnt_3 ok1 (by decide) (by decide) wE]; exact hq⟩⟩) (fun p3 G3 st3 _ => ?_)

      refine told_step (o := .bad "BadMany" dS) R rfl st3 (by show ("BadMany" : Str) ∈ cls4; decide) (row_nl nS) (by simp) (fun G1' eN Q' E' hq => ⟨_, rfl, _, rfl, .ref a1, vS, barsD b1, dS, rfl, dp_extN (st3.e.trans eN) _ _ D1, dp_extN (st3.e.trans eN) _ _ DS, by rw [shf_1 ok1 wS]; exact hq⟩) (fun p4 G4 st4 _ => ?_)

      refine told_step (o := .bad "BadMany" dW) R rfl st4 (by show ("BadMany" : Str) ∈ cls4; decide) (row_nl nW) (by simp) (fun G1' eN Q' E' hq => ⟨_, rfl, _, rfl, _, rfl, _, rfl, _, rfl, .ref a1, v2, vW, vD, vN, barsD b1, barsD b2, dW, dD, dN, rfl, dp_extN (st4.e.trans eN) _ _ D1, dp_extN (st4.e.trans eN) _ _ D2, dp_extN (st4.e.trans eN) _ _ DW, dp_extN (st4.e.trans eN) _ _ DD, dp_extN (st4.e.trans eN) _ _ DN, by rw [nr_1 ok1 ok2 wW]; exact hq⟩) (fun p5 G5 st5 _ => ?_)

      refine told_step (o := .bad "BadMany" dD) R rfl st5 (by show ("BadMany" : Str) ∈ cls4; decide) (row_nl nD) (by simp) (fun G1' eN Q' E' hq => ⟨_, rfl, _, rfl, _, rfl, _, rfl, .ref a1, v2, .int 4, vD, vN, barsD b1, barsD b2, .int 4, dD, dN, rfl, dp_extN (st5.e.trans eN) _ _ D1, dp_extN (st5.e.trans eN) _ _ D2, .int _, dp_extN (st5.e.trans eN) _ _ DD, dp_extN (st5.e.trans eN) _ _ DN, by rw [nr_2 ok1 ok2 (by decide) wD]; exact hq⟩) (fun p6 G6 st6 _ => ?_)

      refine told_step (o := .bad "BadMany" dN) R rfl st6 (by show ("BadMany" : Str) ∈ cls4; decide) (row_nl nN) (by simp) (fun G1' eN Q' E' hq => ⟨_, rfl, _, rfl, _, rfl, .ref a1, v2, .int 4, .int 1, vN, barsD b1, barsD b2, .int 4, .int 1, dN, rfl, dp_extN (st6.e.trans eN) _ _ D1, dp_extN (st6.e.trans eN) _ _ D2, .int _, .int _, dp_extN (st6.e.trans eN) _ _ DN, by rw [nr_3 ok1 ok2 (by decide) (by decide) wN]; exact hq⟩) (fun p7 G7 st7 _ => ?_)

      refine told_step (o := .bad "BadIndex" (.int (b1.length : Nat))) R rfl st7 (by show ("BadIndex" : Str) ∈ cls4; decide) (row_nl rfl) (by simp) (fun G1' eN Q' E' hq => ⟨_, rfl, _, rfl, _, rfl, a1, xs1, rfl, Or.inr (extN_t (st7.e.trans eN) hs1), by
            rw [hx1]
            exact ⟨.ref a1, v2, .int 4, .int 0, .int (b1.length : Nat), barsD b1, barsD b2, .int 4, .int 0, .int (b1.length : Nat), rfl, dp_extN (st7.e.trans eN) _ _ D1, dp_extN (st7.e.trans eN) _ _ D2, .int _, .int _, .int _, by rw [nr_4 ok1 ok2 (by omega)]; exact hq⟩⟩) (fun p8 G8 st8 _ => ?_)

      have DX1 := dp_extN st8.e _ _ DF
      have DX2 := dp_extN st8.e _ _ DS
      have DX5 := dp_extN st8.e _ _ DW
      have DX6 := dp_extN st8.e _ _ DD
      have DX7 := dp_extN st8.e _ _ DN
      have S8 := extN_t st8.e hs1
      refine ⟨_, rfl, h2, fun d1 g1 => ⟨_, rfl, h2, fun d2 g2 => ⟨_, rfl, vS, dS, rfl, (DX2.up (Ex.new g1)).up (Ex.new g2), fun vE DE => ⟨h2, fun d3 g3 => ⟨_, rfl, h2, fun d4 g4 => ⟨_, rfl, h2, fun d5 g5' => ⟨h5, fun DU gU => ?_⟩⟩⟩⟩⟩⟩⟩
      have y1 := Ex.new (o := .tup [.str "BadMany", vF]) g1
      have y2 := Ex.new (o := .tup [.str "BadMany", vS]) g2
      have y3 := Ex.new (o := .tup [.str "BadMany", vE]) g3
      have y4 := Ex.new (o := .tup [.str "BadMany", vS]) g4
      have y5 := Ex.new (o := .tup [.str "BadMany", vW]) g5'
      have yU := Ex.new (o := .lst [V.ref d1, .ref d2, .ref d3, .ref d4, .ref d5]) gU
      have z2 := y1.trans y2
      have z3 := z2.trans y3
      have z4 := z3.trans y4
      have z5 := z4.trans y5
      have zU := z5.trans yU
      have A5 : DpAll K _ [V.ref d1, .ref d2, .ref d3, .ref d4, .ref d5] [(Out.bad "BadMany" dF).row, (Out.bad "BadMany" dS).row, (Out.bad "BadMany" (earlyD dS)).row, (Out.bad "BadMany" dS).row, (Out.bad "BadMany" dW).row] :=
        .cons ((dp_row upd_same (DX1.up y1)).up (y2.trans (y3.trans (y4.trans (y5.trans yU))))) (.cons ((dp_row upd_same (DX2.up z2)).up (y3.trans (y4.trans (y5.trans yU)))) (.cons ((dp_row upd_same (DE.up y3)).up (y4.trans (y5.trans yU))) (.cons ((dp_row upd_same (DX2.up z4)).up (y5.trans yU)) (.cons ((dp_row upd_same (DX5.up z5)).up yU) .nil))))
      have gDU := @upd_same (upd (upd (upd (upd (upd G8 d1 (.tup [.str "BadMany", vF])) d2 (.tup [.str "BadMany", vS])) d3 (.tup [.str "BadMany", vE])) d4 (.tup [.str "BadMany", vS])) d5 (.tup [.str "BadMany", vW])) DU (.lst [V.ref d1, .ref d2, .ref d3, .ref d4, .ref d5])
      have st9 := st8.ex zU
      replace DX6 := DX6.up zU
      replace DX7 := DX7.up zU
      replace S8 := ex_t zU S8
      clear y1 y2 y3 y4 y5 yU z2 z3 z4 z5 zU DX1 DX2 DX5 DE
      generalize upd (upd (upd (upd (upd (upd G8 d1 (.tup [.str "BadMany", vF])) d2 (.tup [.str "BadMany", vS])) d3 (.tup [.str "BadMany", vE])) d4 (.tup [.str "BadMany", vS])) d5 (.tup [.str "BadMany", vW])) DU (.lst [V.ref d1, .ref d2, .ref d3, .ref d4, .ref d5]) = G9 at A5 gDU st9 DX6 DX7 S8 ⊢
      clear g1 g2 g3 g4 g5' gU
      refine ⟨_, rfl, _, rfl, h2, fun d6 g6 => ⟨_, rfl, h2, fun d7 g7 => ⟨_, rfl, a1, xs1, rfl, Or.inr (ex_t ((Ex.new g6).trans (Ex.new g7)) S8), h2, fun d8 g8 => ⟨h3, fun DV gV => ⟨DU, DV, _, _, rfl, rfl, (Ex.new gV) _ _ ((Ex.new g8) _ _ ((Ex.new g7) _ _ ((Ex.new g6) _ _ gDU))), upd_same, sz_lit (by simp), fun DX gX => ?_⟩⟩⟩⟩⟩
      have y6 := Ex.new (o := .tup [.str "BadMany", vD]) g6
      have y7 := Ex.new (o := .tup [.str "BadMany", vN]) g7
      have y8 := Ex.new (o := .tup [.str "BadIndex", .int (xs1.length : Nat)]) g8
      have yV := Ex.new (o := .lst [V.ref d6, .ref d7, .ref d8]) gV
      have yX := Ex.new (o := .lst ([V.ref d1, .ref d2, .ref d3, .ref d4, .ref d5] ++ [V.ref d6, .ref d7, .ref d8])) gX
      have z7 := y6.trans y7
      have zX := ((z7.trans y8).trans yV).trans yX
      have A8 := (A5.up zX).app (.cons ((dp_row upd_same (DX6.up y6)).up (((y7.trans y8).trans yV).trans yX)) (.cons ((dp_row upd_same (DX7.up z7)).up ((y8.trans yV).trans yX)) (.cons ((dp_row (c := "BadIndex") (d := .int (b1.length : Nat)) upd_same (by rw [hx1]; exact .int _)).up (yV.trans yX)) .nil)))
      have gDX := @upd_same (upd (upd (upd (upd G9 d6 (.tup [.str "BadMany", vD])) d7 (.tup [.str "BadMany", vN])) d8 (.tup [.str "BadIndex", .int (xs1.length : Nat)])) DV (.lst [V.ref d6, .ref d7, .ref d8])) DX (.lst ([V.ref d1, .ref d2, .ref d3, .ref d4, .ref d5] ++ [V.ref d6, .ref d7, .ref d8]))
      have stX := st9.ex zX
      have nDX : DX ≠ LT := fun z => by
        have q1 := ((z7.trans y8).trans yV) _ _ st9.here
        rw [← z, gX] at q1
        cases q1
      clear y6 y7 y8 yV yX z7 zX
      generalize upd (upd (upd (upd (upd G9 d6 (.tup [.str "BadMany", vD])) d7 (.tup [.str "BadMany", vN])) d8 (.tup [.str "BadIndex", .int (xs1.length : Nat)])) DV (.lst [V.ref d6, .ref d7, .ref d8])) DX (.lst ([V.ref d1, .ref d2, .ref d3, .ref d4, .ref d5] ++ [V.ref d6, .ref d7, .ref d8])) = GX at A8 gDX stX ⊢
      have fits8 : ∀ d ∈ ([(Out.bad "BadMany" dF).row, (Out.bad "BadMany" dS).row, (Out.bad "BadMany" (earlyD dS)).row, (Out.bad "BadMany" dS).row, (Out.bad "BadMany" dW).row] ++ [(Out.bad "BadMany" dD).row, (Out.bad "BadMany" dN).row, (Out.bad "BadIndex" (.int (b1.length : Nat))).row] : List PyData), fits 3 d = true := fun d hd => by
        simp only [List.mem_append, List.mem_cons, List.not_mem_nil, or_false] at hd
        rcases hd with (rfl | rfl | rfl | rfl | rfl) | (rfl | rfl | rfl)
        · exact row_fits fF
        · exact row_fits fS
        · exact row_fits fE
        · exact row_fits fS
        · exact row_fits fW
        · exact row_fits fD
        · exact row_fits fN
        · rfl
      refine ⟨_, rfl, _, rfl, iteT ?_⟩

      refine told_step (o := .bad p.1 (.int p.2)) R rfl stX (fault_in hp) (row_nl rfl) (by simp) (fun G1' eN Q' E' hq => ⟨_, rfl, _, rfl, _, rfl, _, rfl, vB, vF, vS, vS, dB, dF, dS, dS, rfl, dp_extN (stX.e.trans eN) _ _ DB, dp_extN (stX.e.trans eN) _ _ DF, dp_extN (stX.e.trans eN) _ _ DS, dp_extN (stX.e.trans eN) _ _ DS, by rw [cnt_0 hp]; exact hq⟩) (fun r0 F0 sf0 kf0 => ?_)

      refine told_step (o := .bad p.1 (.int p.2)) R rfl sf0 (fault_in hp) (row_nl rfl) (by simp) (fun G1' eN Q' E' hq => ⟨_, rfl, _, rfl, _, rfl, _, rfl, vB, .non, vW, vD, vN, dB, .none, dW, dD, dN, rfl, dp_extN (sf0.e.trans eN) _ _ DB, .non, dp_extN (sf0.e.trans eN) _ _ DW, dp_extN (sf0.e.trans eN) _ _ DD, dp_extN (sf0.e.trans eN) _ _ DN, by rw [nr_0 hp]; exact hq⟩) (fun r1 F1 sf1 kf1 => ?_)

      refine told_step (o := .bad p.1 (.int p.2)) R rfl sf1 (fault_in hp) (row_nl rfl) (by simp) (fun G1' eN Q' E' hq => ⟨_, rfl, _, rfl, _, rfl, _, rfl, _, rfl, .ref a1, vB, vW, vD, vN, barsD b1, dB, dW, dD, dN, rfl, dp_extN (sf1.e.trans eN) _ _ D1, dp_extN (sf1.e.trans eN) _ _ DB, dp_extN (sf1.e.trans eN) _ _ DW, dp_extN (sf1.e.trans eN) _ _ DD, dp_extN (sf1.e.trans eN) _ _ DN, by rw [nr_00 ok1 hp]; exact hq⟩) (fun r2 F2 sf2 kf2 => ?_)

      refine told_step (o := .bad p.1 (.int p.2)) R rfl sf2 (fault_in hp) (row_nl rfl) (by simp) (fun G1' eN Q' E' hq => ⟨_, rfl, _, rfl, vB, vS, dB, dS, rfl, dp_extN (sf2.e.trans eN) _ _ DB, dp_extN (sf2.e.trans eN) _ _ DS, by rw [shf_0 hp]; exact hq⟩) (fun r3 F3 sf3 kf3 => ?_)
      have gend : ∀ {G : Hp} {its : List V} {rows : List PyData}, ToldSt K TT LT H5 G its rows → ∀ H', Ex G H' → Gs j TT H H' := fun {G its rows} s H' e =>
        g5.sub ⟨by
          obtain ⟨x, y, hj, hv⟩ := g5.jar
          exact ⟨x, y, e _ _ (s.e _ _ hj (fun ps z => by cases z)), hv⟩, s.tab.ext e, (BN.extN s.e).trans (.ex e)⟩
      have gX0 := kf0 _ _ nDX gDX (fun ps z => by cases z)
      have gX1 := kf1 _ _ nDX gX0 (fun ps z => by cases z)
      have gX2 := kf2 _ _ nDX gX1 (fun ps z => by cases z)
      have gX3 := kf3 _ _ nDX gX2 (fun ps z => by cases z)
      have eF : ExtN (cut [LT] GX) F3 := fun b o hb nt => by
        obtain ⟨n, z⟩ := cut_some hb
        have n' : b ≠ LT := by simpa using n
        exact kf3 b o n' (kf2 b o n' (kf1 b o n' (kf0 b o n' z nt) nt) nt) nt
      have nl8 : List.all ([(Out.bad "BadMany" dF).row, (Out.bad "BadMany" dS).row, (Out.bad "BadMany" (earlyD dS)).row, (Out.bad "BadMany" dS).row, (Out.bad "BadMany" dW).row] ++ [(Out.bad "BadMany" dD).row, (Out.bad "BadMany" dN).row, (Out.bad "BadIndex" (.int (b1.length : Nat))).row] : List PyData) (nl 4) = true := by
        rw [List.all_eq_true]
        intro d hd
        simp only [List.mem_append, List.mem_cons, List.not_mem_nil, or_false] at hd
        rcases hd with (rfl | rfl | rfl | rfl | rfl) | (rfl | rfl | rfl)
        · exact row_nl nF
        · exact row_nl nS
        · exact row_nl nE
        · exact row_nl nS
        · exact row_nl nW
        · exact row_nl nD
        · exact row_nl nN
        · exact row_nl rfl
      have A8' := dpAll_extN eF _ _ (dpAll_nl stX.here _ 4 _ nl8 A8)
      have DTF := dp_extN sf3.e _ _ DT
      refine ⟨_, rfl, _, rfl, h1, fun DL gL => ⟨DL, 4, [.ref tf], rfl, rfl, upd_same, by decide, by decide, sz_lit (by simp), fun DM gM => ⟨DX, DM, _, _, rfl, rfl, (Ex.new gM) _ _ ((Ex.new gL) _ _ gX3), upd_same, sz_lit (by simp), fun DN' gN => ?_⟩⟩⟩
      have u1 := Ex.new (o := .lst [V.ref tf]) gL
      have u2 := Ex.new (o := .lst (List.replicate (4 : Int).toNat [V.ref tf]).flatten) gM
      have u3 := (u1.trans u2).trans (Ex.new (o := .lst (([V.ref d1, .ref d2, .ref d3, .ref d4, .ref d5] ++ [V.ref d6, .ref d7, .ref d8]) ++ (List.replicate (4 : Int).toNat [V.ref tf]).flatten)) gN)
      have st12 := sf3.ex u3
      refine ⟨_, rfl, _, rfl, .ref LT, .ref DN', _, rfl, st12.dp, .lst (Or.inl (Or.inl upd_same)) ((A8'.up u3).app (dpAll_rep (DTF.up u3) 4)), fits_listL (fun d hd => ?_) (by simp), fun H' e => q H' (gend st12 H' e)⟩
      rcases List.mem_append.mp (show d ∈ ([(Out.bad "BadMany" dF).row, (Out.bad "BadMany" dS).row, (Out.bad "BadMany" (earlyD dS)).row, (Out.bad "BadMany" dS).row, (Out.bad "BadMany" dW).row] ++ [(Out.bad "BadMany" dD).row, (Out.bad "BadMany" dN).row, (Out.bad "BadIndex" (.int (b1.length : Nat))).row] : List PyData) ++ List.replicate 4 (Out.bad p.1 (.int p.2)).row from hd) with h | h
      · exact fits8 d h
      · rw [List.eq_of_mem_replicate h]
        rfl
end
end K22
end
section
set_option pp.maxSteps 400
set_option Elab.async false
set_option linter.all false
set_option maxRecDepth 100000
set_option maxHeartbeats 4000000
namespace K22
open PySem PySem.Spec PyProof.Rows L2 LB LamX Evl
def spLaw (K : PySem.W.Frag) (TT : List (Addr × Str)) : Sp := fun vs H Q _ => ∃ (a : Addr) (ns : List Int), vs = [.ref a] ∧ SqL K H a (ns.map V.int) ∧ ns.length ≤ 63 ∧ Tabs TT H ∧ ∀ H', Q (.bl true) H'
section
variable {P : Program} {w : World} {K : PySem.W.Frag} {mg : Str → Option Value} {base : Heap} {cl : Str → Addr} {CR : Addr}
theorem fnL_of {x : Str} {st : Stmt} {N ps : List Str} {k : Nat} {sp : Sp} {f : Addr} {oc : Value} {od : Option Addr} {dV kV doc pm : Value} {an : Option Addr} {cdv ct : Value} {osl : Array (Option Value)}
    (lk : K.lookup f = some ⟨oc, od, .func (PySem.W.fnOf x x (defArgs st) (defBody st) (defScope st) dV kV doc pm an cdv ct), osl⟩) (hcd : PySem.W.codeIn K cdv x = true) (S : FnScope N ps (defScope st)) (len : ∀ vs H Q E, sp vs H Q E → vs.length = ps.length)
    (hbody : ∀ (A : Around) (outer : List Env) (s : Shared) (H : Hp) (vs : List V) (Q : VK) (E : XK), Room k (A.deeper (envOfC x (defScope st) s.heap.objs.size f cdv)) → sp vs H Q E →
      ∃ t, PSs (cxOf CX0 P w K mg base N x (defScope st) f cdv A outer s H E).nox (defBody st) t ∧ t { nx := fun _ H' => Q .non H', rt := Q } (start N vs) H) :
    FnOk P w K mg base CX0 (k + 1) f (PySem.W.fnOf x x (defArgs st) (defBody st) (defScope st) dV kV doc pm an cdv ct) ps sp := by
  refine fn_of lk hcd S len fun A outer s H vs Q E hr hsp => ?_
  obtain ⟨t, h, q⟩ := hbody A outer s H vs Q E hr hsp
  exact ⟨t, h.nox, q⟩
theorem ok_law {c : Addr} {TT : List (Addr × Str)} {fL : Addr} {oL : Value} {dL : Option Addr} {vL1 vL2 vL3 vL4 : Value} {aL : Option Addr} {tL : Value} {sL : Array (Option Value)}
    (lkL : K.lookup fL = some ⟨oL, dL, .func (PySem.W.fnOf "law" "law" (defArgs s_law) (defBody s_law) (defScope s_law) vL1 vL2 vL3 vL4 aL (.ref c) tL), sL⟩) (hcdL : PySem.W.codeIn K (.ref c) "law" = true) (T : Bt mg)
    (f_law_pool : Cal P w K mg base 1 "_law_pool" (spPool K)) (f_law_bl_rows : Cal P w K mg base 4 "_law_bl_rows" (spRows K)) (f_law_mt_fault : Cal P w K mg base 3 "_law_mt_fault" (spFault K))
    (f_law_bl_made_right : Cal P w K mg base 8 "_law_bl_made_right" (spMadeR K TT)) (f_law_bl_counts_right : Cal P w K mg base 8 "_law_bl_counts_right" (spCountsR K TT)) (f_law_bl_near_right : Cal P w K mg base 8 "_law_bl_near_right" (spNearR K)) (f_law_bl_refused_right : Cal P w K mg base 9 "_law_bl_refused_right" (spRefR K TT)) :
    FnOk P w K mg base CX0 10 fL (PySem.W.fnOf "law" "law" (defArgs s_law) (defBody s_law) (defScope s_law) vL1 vL2 vL3 vL4 aL (.ref c) tL) ["script"] (spLaw K TT) := by
  refine fnL_of lkL hcdL sc_law (fun vs H Q E h => ?_) (fun A outer s H vs Q E hr h => ?_)
  · obtain ⟨a, ns, rfl, _⟩ := h
    rfl
  · obtain ⟨a, ns, rfl, S, hn63, hT, q⟩ := h
    refine ⟨_, (pss_cons (ps_for PassesOwn.never rfl (pi_range1 (by rfl) T.m_range (pa_cons (pe_callB (call_max2 rfl) (by rfl) T.m_max (by decide +kernel) (pa_cons pe_int (pa_cons (pe_callTy call_int1 (by rfl) T.m_int (by decide +kernel) (pa_cons (pe_callB (call_min2 rfl) (by rfl) T.m_min (by decide +kernel) (pa_cons pe_int (pa_cons (pe_callB call_len_seq (by rfl) T.m_len PySem.boot_len (pa_cons (pv 0) pa_nil)) pa_nil))) pa_nil)) pa_nil))) pa_nil)) (pg_name (i := 1) sc_law.nd rfl (Or.inl rfl)) (pss_cons (ps_set (i := 2) sc_law.nd rfl (Or.inl rfl) (LB.pe_c f_law_pool hr (by decide) (by rfl) (pa_cons (pv 0) (pa_cons (pv 1) pa_nil))))
      (pss_one (ps_for PassesOwn.never rfl (pi_range1 (by rfl) T.m_range (pa_cons pe_int pa_nil)) (pg_name (i := 3) sc_law.nd rfl (Or.inl rfl)) (pss_cons (ps_asg (LB.pe_c f_law_bl_rows hr (by decide) (by rfl) (pa_cons (pv 2) pa_nil)) (pg_tup rfl (pgs_cons (pg_name (i := 4) sc_law.nd rfl (Or.inl rfl)) (pgs_cons (pg_name (i := 5) sc_law.nd rfl (Or.inl rfl)) (pgs_cons (pg_name (i := 6) sc_law.nd rfl (Or.inl rfl)) pgs_nil)))))
      (pss_cons (ps_if (PW.pt (pw_or (pt_cmp (pc_notN (LB.pe_c f_law_mt_fault hr (by decide) (by rfl) (pa_cons (pv 4) pa_nil))) rfl) (pw_or1 (pt_cmp (pc_notN (LB.pe_c f_law_mt_fault hr (by decide) (by rfl) (pa_cons (pv 5) pa_nil))) rfl)))) (pss_one (ps_ret pe_bl)) pss_nil)
      (pss_cons (ps_if (PW.pt (pw_or (pt_not (pt_val (LB.pe_c f_law_bl_made_right hr (by decide) (by rfl) (pa_cons (pv 2) (pa_cons (pv 4) pa_nil))))) (pw_or1 (pt_not (pt_val (LB.pe_c f_law_bl_counts_right hr (by decide) (by rfl) (pa_cons (pv 2) (pa_cons (pv 4) (pa_cons (pv 6) pa_nil))))))))) (pss_one (ps_ret pe_bl)) pss_nil)
      (pss_one (ps_if (PW.pt (pw_or (pt_not (pt_val (LB.pe_c f_law_bl_near_right hr (by decide) (by rfl) (pa_cons (pv 2) (pa_cons (pv 4) (pa_cons (pv 5) pa_nil)))))) (pw_or1 (pt_not (pt_val (LB.pe_c f_law_bl_refused_right hr (by decide) (by rfl) (pa_cons (pv 2) (pa_cons (pv 4) (pa_cons (pv 5) pa_nil))))))))) (pss_one (ps_ret pe_bl)) pss_nil)))))))))
      (pss_one (ps_ret pe_bl))), ?_⟩
    refine ⟨_, rfl, a, _, rfl, Or.inl S, _, _, rfl, Or.inl ⟨_, rfl, _, _, rfl, ?_⟩⟩
    obtain ⟨N, hN⟩ : ∃ N : Int, N = (if (1 : Int) < (if ((ns.map V.int).length : Int) < 4 then ((ns.map V.int).length : Int) else 4) then (if ((ns.map V.int).length : Int) < 4 then ((ns.map V.int).length : Int) else 4) else 1) := ⟨_, rfl⟩
    rw [← hN]
    rw [List.length_map] at hN
    refine ⟨_, rfl, by omega, by omega, for_range (lo := 0) (n := N.toNat) (fun i σ H' => ∃ v1 v2 v3 v4 v5 v6 : Option V, σ = [some (V.ref a), v1, v2, v3, v4, v5, v6] ∧ ExtN H H' ∧ Tabs TT H') ⟨none, none, none, none, none, none, rfl, ExtN.refl _, hT⟩ ?_ ?_⟩
    · rintro k σ H0 hk ⟨v1, v2, v3, v4, v5, v6, rfl, e0, T0⟩
      have S0 : SqL K H0 a (ns.map V.int) := extN_l e0 S
      have hk4 : k < 4 := by
        split at hN
        · split at hN <;> omega
        · omega
      have hkn : k < ns.length ∨ ns = [] := by
        by_cases hns : ns = []
        · exact Or.inr hns
        · have : 1 ≤ ns.length := by
            cases ns with
            | nil => exact absurd rfl hns
            | cons x r => simp
          refine Or.inl ?_
          split at hN
          · split at hN <;> omega
          · omega
      refine ⟨_, rfl, _, rfl, a, ns, k, by rw [Int.zero_add]; rfl, S0, by omega, hkn, fun j H1 nj e1 J1 => ?_⟩
      have T1 := T0.ext e1
      refine ⟨_, rfl, by decide, by decide, for_range (lo := 0) (n := (3 : Int).toNat) (fun i σ G => ∃ w3 w4 w5 w6 : Option V, σ = [some (V.ref a), some (V.int (0 + (k : Int))), some (V.ref j), w3, w4, w5, w6] ∧ Gs j TT H1 G) ⟨_, _, _, _, rfl, Gs.here J1 T1⟩ ?_ ?_⟩
      · rintro n σ G hn ⟨w3, w4, w5, w6, rfl, g⟩
        refine ⟨_, rfl, j, rfl, g.jar, fun t u1 u2 b1 b2 top G1 ok1 ok2 l1 l2 t8 t4 J2 B2 ht ntj D1 D2 => ⟨t, _, rfl, Or.inl (Or.inl ht), rfl, _, _, rfl, _, _, rfl, _, _, rfl, rfl, ?_⟩⟩
        have g1 := g.but J2 B2
        refine ⟨_, rfl, u1, barsD b1, rfl, D1.up ex_cut, fun _ G2 e2 => ?_, fun p hp => absurd hp (by rw [fault_ok ok1]; exact fun z => nomatch z)⟩
        have g2 := (Gs.here g1.jar g1.tab).ex e2
        refine ⟨_, rfl, iteF ⟨_, rfl, u2, barsD b2, rfl, (g2.dp D2).up ex_cut, fun _ G3 e3 => ⟨_, rfl, iteF ?_⟩, fun p hp => absurd hp (by rw [fault_ok ok2]; exact fun z => nomatch z)⟩⟩
        have g3 := g2.ex e3
        refine ⟨_, rfl, _, rfl, j, u1, b1, rfl, g3.jar, g3.tab, g3.dp D1, ok1, by omega, fun G4 h4 => ⟨_, rfl, iteF ?_⟩⟩
        have g4 := g3.sub h4
        refine ⟨_, rfl, _, rfl, _, rfl, j, u1, b1, top, rfl, g4.jar, g4.tab, g4.dp D1, ok1, by omega, t8, t4, fun G5 h5 => ⟨_, rfl, iteF ?_⟩⟩
        have g5 := g4.sub h5
        refine ⟨_, rfl, _, rfl, _, rfl, j, u1, u2, b1, b2, rfl, g5.jar, g5.dp D1, g5.dp D2, ok1, ok2, by omega, l2, fun G6 J6 B6 => ⟨_, rfl, iteF ?_⟩⟩
        have g6 := g5.but J6 B6
        refine ⟨_, rfl, _, rfl, _, rfl, j, u1, u2, b1, b2, rfl, g6.jar, g6.tab, g6.dp D1, g6.dp D2, ok1, ok2, by omega, l2, fun G7 h7 => ⟨_, rfl, iteF ?_⟩⟩
        exact ⟨_, _, _, _, rfl, g1.sub (g6.sub h7)⟩
      · rintro σ G ⟨w3, w4, w5, w6, rfl, g⟩
        refine ⟨_, _, _, _, _, _, rfl, fun b o hb nt => ?_, g.tab⟩
        have hb0 := e0 _ _ hb nt
        have nbj : b ≠ j := fun z => by
          rw [z, nj] at hb0
          cases hb0
        exact g.bn _ _ nbj (e1 _ _ hb0) nt
    · rintro σ H0 ⟨v1, v2, v3, v4, v5, v6, rfl, e0, T0⟩
      exact q H0
end
end K22
end
section
set_option Elab.async false
set_option linter.all false
set_option maxRecDepth 100000
set_option maxHeartbeats 4000000
namespace K22
open PySem PySem.Spec PyProof.Rows L2 LB LamX
def clOf (C1 C2 C3 C4 : Addr) (c : Str) : Addr := if c = "BadMany" then C1 else if c = "TooMany" then C2 else if c = "BadBars" then C3 else C4
theorem all_mk {l : PySem.W.OpenLaw} {w : World} {K : PySem.W.Frag} {h : Heap} {mg : Str → Option Value} {fa : Addr} (X : K.In h) (G : h.Ns mainGlobals mg) (hfa : mg "law" = some (.ref fa))
    (hD : ∃ u, mg "MOST_DATE" = some u ∧ RelV (.int 4000000) u)
    (hW : ∃ u, mg "MOST_WIDE" = some u ∧ RelV (.int 10000000) u)
    {f_whole c_whole f_asked_many c_asked_many f_is_bar c_is_bar f_bars_wrong c_bars_wrong f_asked_bars c_asked_bars f_made_bars c_made_bars f_cost c_cost f_is_near c_is_near f_later_bar c_later_bar f_count_on c_count_on f_shifted c_shifted f_asked_wide c_asked_wide f_near_of c_near_of f_law_pool c_law_pool f_law_take c_law_take f_law_one c_law_one f_law_odd_whole c_law_odd_whole f_law_bent c_law_bent f_law_is_whole c_law_is_whole f_law_like c_law_like f_law_mt_is_bar c_law_mt_is_bar f_law_mt_fault c_law_mt_fault f_law_mt_cost c_law_mt_cost f_law_mt_near c_law_mt_near f_law_mt_there c_law_mt_there f_law_mt_bar_drawn c_law_mt_bar_drawn f_law_mt_bars_drawn c_law_mt_bars_drawn f_law_mt_moved c_law_mt_moved f_law_bl_said c_law_bl_said f_law_bl_rows c_law_bl_rows f_law_bl_made_right c_law_bl_made_right f_law_bl_counts_right c_law_bl_counts_right f_law_bl_near_right c_law_bl_near_right f_law_bl_refused_right c_law_bl_refused_right f_law_bl_early c_law_bl_early f_law c_law : Addr}
    (d_whole : DnK K "whole" s_whole f_whole c_whole)
    (d_asked_many : DnK K "asked_many" s_asked_many f_asked_many c_asked_many)
    (d_is_bar : DnK K "is_bar" s_is_bar f_is_bar c_is_bar)
    (d_bars_wrong : DnK K "bars_wrong" s_bars_wrong f_bars_wrong c_bars_wrong)
    (d_asked_bars : DnK K "asked_bars" s_asked_bars f_asked_bars c_asked_bars)
    (d_made_bars : DnK K "made_bars" s_made_bars f_made_bars c_made_bars)
    (d_cost : DnK K "cost" s_cost f_cost c_cost)
    (d_is_near : DnK K "is_near" s_is_near f_is_near c_is_near)
    (d_later_bar : DnK K "later_bar" s_later_bar f_later_bar c_later_bar)
    (d_count_on : DnK K "count_on" s_count_on f_count_on c_count_on)
    (d_shifted : DnK K "shifted" s_shifted f_shifted c_shifted)
    (d_asked_wide : DnK K "asked_wide" s_asked_wide f_asked_wide c_asked_wide)
    (d_near_of : DnK K "near_of" s_near_of f_near_of c_near_of)
    (d_law_pool : DnK K "_law_pool" s_law_pool f_law_pool c_law_pool)
    (d_law_take : DnK K "_law_take" s_law_take f_law_take c_law_take)
    (d_law_one : DnK K "_law_one" s_law_one f_law_one c_law_one)
    (d_law_odd_whole : DnK K "_law_odd_whole" s_law_odd_whole f_law_odd_whole c_law_odd_whole)
    (d_law_bent : DnK K "_law_bent" s_law_bent f_law_bent c_law_bent)
    (d_law_is_whole : DnK K "_law_is_whole" s_law_is_whole f_law_is_whole c_law_is_whole)
    (d_law_like : DnK K "_law_like" s_law_like f_law_like c_law_like)
    (d_law_mt_is_bar : DnK K "_law_mt_is_bar" s_law_mt_is_bar f_law_mt_is_bar c_law_mt_is_bar)
    (d_law_mt_fault : DnK K "_law_mt_fault" s_law_mt_fault f_law_mt_fault c_law_mt_fault)
    (d_law_mt_cost : DnK K "_law_mt_cost" s_law_mt_cost f_law_mt_cost c_law_mt_cost)
    (d_law_mt_near : DnK K "_law_mt_near" s_law_mt_near f_law_mt_near c_law_mt_near)
    (d_law_mt_there : DnK K "_law_mt_there" s_law_mt_there f_law_mt_there c_law_mt_there)
    (d_law_mt_bar_drawn : DnK K "_law_mt_bar_drawn" s_law_mt_bar_drawn f_law_mt_bar_drawn c_law_mt_bar_drawn)
    (d_law_mt_bars_drawn : DnK K "_law_mt_bars_drawn" s_law_mt_bars_drawn f_law_mt_bars_drawn c_law_mt_bars_drawn)
    (d_law_mt_moved : DnK K "_law_mt_moved" s_law_mt_moved f_law_mt_moved c_law_mt_moved)
    (d_law_bl_said : DnK K "_law_bl_said" s_law_bl_said f_law_bl_said c_law_bl_said)
    (d_law_bl_rows : DnK K "_law_bl_rows" s_law_bl_rows f_law_bl_rows c_law_bl_rows)
    (d_law_bl_made_right : DnK K "_law_bl_made_right" s_law_bl_made_right f_law_bl_made_right c_law_bl_made_right)
    (d_law_bl_counts_right : DnK K "_law_bl_counts_right" s_law_bl_counts_right f_law_bl_counts_right c_law_bl_counts_right)
    (d_law_bl_near_right : DnK K "_law_bl_near_right" s_law_bl_near_right f_law_bl_near_right c_law_bl_near_right)
    (d_law_bl_refused_right : DnK K "_law_bl_refused_right" s_law_bl_refused_right f_law_bl_refused_right c_law_bl_refused_right)
    (d_law_bl_early : DnK K "_law_bl_early" s_law_bl_early f_law_bl_early c_law_bl_early)
    (d_law : DnK K "law" s_law f_law c_law)
    {P1 P2 P3 : Addr} (hd1 : PySem.W.codeHdIn K c_law_bl_made_right P1 = true) (n1 : K.lookup P1 = none) (t1 : h.get? P1 = some { cls := .none, data := .fields #[] }) (hd2 : PySem.W.codeHdIn K c_law_bl_counts_right P2 = true) (n2 : K.lookup P2 = none) (t2 : h.get? P2 = some { cls := .none, data := .fields #[] }) (hd3 : PySem.W.codeHdIn K c_law_bl_refused_right P3 = true) (n3 : K.lookup P3 = none) (t3 : h.get? P3 = some { cls := .none, data := .fields #[] }) (np12 : P1 ≠ P2) (np13 : P1 ≠ P3) (np23 : P2 ≠ P3)
    (b_range : PySem.W.nsIn K mainGlobals "range" = some none) (b_len : PySem.W.nsIn K mainGlobals "len" = some none) (b_int : PySem.W.nsIn K mainGlobals "int" = some none) (b_bool : PySem.W.nsIn K mainGlobals "bool" = some none) (b_str : PySem.W.nsIn K mainGlobals "str" = some none) (b_dict : PySem.W.nsIn K mainGlobals "dict" = some none) (b_tuple : PySem.W.nsIn K mainGlobals "tuple" = some none) (b_list : PySem.W.nsIn K mainGlobals "list" = some none) (b_isinstance : PySem.W.nsIn K mainGlobals "isinstance" = some none) (b_max : PySem.W.nsIn K mainGlobals "max" = some none) (b_min : PySem.W.nsIn K mainGlobals "min" = some none) (b_sorted : PySem.W.nsIn K mainGlobals "sorted" = some none) (b_enumerate : PySem.W.nsIn K mainGlobals "enumerate" = some none) (b_abs : PySem.W.nsIn K mainGlobals "abs" = some none) (b_ValueError : PySem.W.nsIn K mainGlobals "ValueError" = some none)
    {tk_mb tk_me tk_mi : Tok} (mb : PySem.W.nsIn K mainGlobals "MOST_BARS" = some (some (.int 80 tk_mb))) (me : PySem.W.nsIn K mainGlobals "ENDLESS" = some (some (.int (-1) tk_me))) (mi : PySem.W.nsIn K mainGlobals "MOST_INDEX" = some (some (.int 79 tk_mi)))
    {CR C1 C2 C3 C4 fI : Addr} (aR : PySem.W.nsIn K mainGlobals "Refused" = some (some (.ref CR)))
    (a1 : PySem.W.nsIn K mainGlobals "BadMany" = some (some (.ref C1))) (ox1 : OexC K C1) (iC1 : PySem.W.findIn K (.ref C1) "__init__" = some (some (.ref fI))) (no1 : PySem.W.findIn K (.ref C1) "what" = some none) (xf1 : XfC K C1) (ec1 : ExcC K C1) (em1 : PySem.W.exmOne K (.ref C1) (.ref CR) = some true)
    (ki11 : PySem.W.kitOne K (.ref C1) (.ref C1) = some true) (ki12 : PySem.W.kitOne K (.ref C1) (.ref C2) = some false) (ki13 : PySem.W.kitOne K (.ref C1) (.ref C3) = some false) (ki14 : PySem.W.kitOne K (.ref C1) (.ref C4) = some false)
    (a2 : PySem.W.nsIn K mainGlobals "TooMany" = some (some (.ref C2))) (ox2 : OexC K C2) (iC2 : PySem.W.findIn K (.ref C2) "__init__" = some (some (.ref fI))) (no2 : PySem.W.findIn K (.ref C2) "what" = some none) (xf2 : XfC K C2) (ec2 : ExcC K C2) (em2 : PySem.W.exmOne K (.ref C2) (.ref CR) = some true)
    (ki21 : PySem.W.kitOne K (.ref C2) (.ref C1) = some false) (ki22 : PySem.W.kitOne K (.ref C2) (.ref C2) = some true) (ki23 : PySem.W.kitOne K (.ref C2) (.ref C3) = some false) (ki24 : PySem.W.kitOne K (.ref C2) (.ref C4) = some false)
    (a3 : PySem.W.nsIn K mainGlobals "BadBars" = some (some (.ref C3))) (ox3 : OexC K C3) (iC3 : PySem.W.findIn K (.ref C3) "__init__" = some (some (.ref fI))) (no3 : PySem.W.findIn K (.ref C3) "what" = some none) (xf3 : XfC K C3) (ec3 : ExcC K C3) (em3 : PySem.W.exmOne K (.ref C3) (.ref CR) = some true)
    (ki31 : PySem.W.kitOne K (.ref C3) (.ref C1) = some false) (ki32 : PySem.W.kitOne K (.ref C3) (.ref C2) = some false) (ki33 : PySem.W.kitOne K (.ref C3) (.ref C3) = some true) (ki34 : PySem.W.kitOne K (.ref C3) (.ref C4) = some false)
    (a4 : PySem.W.nsIn K mainGlobals "BadIndex" = some (some (.ref C4))) (ox4 : OexC K C4) (iC4 : PySem.W.findIn K (.ref C4) "__init__" = some (some (.ref fI))) (no4 : PySem.W.findIn K (.ref C4) "what" = some none) (xf4 : XfC K C4) (ec4 : ExcC K C4) (em4 : PySem.W.exmOne K (.ref C4) (.ref CR) = some true)
    (ki41 : PySem.W.kitOne K (.ref C4) (.ref C1) = some false) (ki42 : PySem.W.kitOne K (.ref C4) (.ref C2) = some false) (ki43 : PySem.W.kitOne K (.ref C4) (.ref C3) = some false) (ki44 : PySem.W.kitOne K (.ref C4) (.ref C4) = some true)
    (tI : PySem.W.typeIn K (.ref fI) = some (.type "function")) (ve : PySem.W.findCls K (.type "ValueError") (.type "type") "__init__" = some (.val (.builtin "ValueError.__init__")))
    {oI : Value} {oJ : Option Addr} {kI dI pI : Value} {aI : Option Addr} {cI uI : Value} {sI : Array (Option Value)} (lI : K.lookup fI = some ⟨oI, oJ, .func (PySem.W.fnOf "__init__" "Refused.__init__" (defArgs s_init) (defBody s_init) (defScope s_init) .none kI dI pI aI cI uI), sI⟩) (cdI : PySem.W.codeIn K cI "Refused.__init__" = true) (kpI : PySem.W.keepIn K (.ref fI) = true) :
    LawAtS l w K L2.CX0 10 63 "script" mg fa h := by
  have hfa' := d_law.at_ X G
  rw [hfa] at hfa'
  cases hfa'
  have D_whole : Dn K mg "whole" s_whole ["thing", "low", "high"] := d_whole.dn X G (fun _ _ _ _ _ _ us hl => match us, hl with | [_, _, _], _ => rfl)
  have D_asked_many : Dn K mg "asked_many" s_asked_many ["thing", "low", "high"] := d_asked_many.dn X G (fun _ _ _ _ _ _ us hl => match us, hl with | [_, _, _], _ => rfl)
  have D_is_bar : Dn K mg "is_bar" s_is_bar ["thing"] := d_is_bar.dn X G (fun _ _ _ _ _ _ us hl => match us, hl with | [_], _ => rfl)
  have D_bars_wrong : Dn K mg "bars_wrong" s_bars_wrong ["thing"] := d_bars_wrong.dn X G (fun _ _ _ _ _ _ us hl => match us, hl with | [_], _ => rfl)
  have D_asked_bars : Dn K mg "asked_bars" s_asked_bars ["thing"] := d_asked_bars.dn X G (fun _ _ _ _ _ _ us hl => match us, hl with | [_], _ => rfl)
  have D_made_bars : Dn K mg "made_bars" s_made_bars ["thing"] := d_made_bars.dn X G (fun _ _ _ _ _ _ us hl => match us, hl with | [_], _ => rfl)
  have D_cost : Dn K mg "cost" s_cost ["one", "two"] := d_cost.dn X G (fun _ _ _ _ _ _ us hl => match us, hl with | [_, _], _ => rfl)
  have D_is_near : Dn K mg "is_near" s_is_near ["x", "y", "w"] := d_is_near.dn X G (fun _ _ _ _ _ _ us hl => match us, hl with | [_, _, _], _ => rfl)
  have D_later_bar : Dn K mg "later_bar" s_later_bar ["bar", "x"] := d_later_bar.dn X G (fun _ _ _ _ _ _ us hl => match us, hl with | [_, _], _ => rfl)
  have D_count_on : Dn K mg "count_on" s_count_on ["bars", "k", "s", "t"] := d_count_on.dn X G (fun _ _ _ _ _ _ us hl => match us, hl with | [_, _, _, _], _ => rfl)
  have D_shifted : Dn K mg "shifted" s_shifted ["bars", "x"] := d_shifted.dn X G (fun _ _ _ _ _ _ us hl => match us, hl with | [_, _], _ => rfl)
  have D_asked_wide : Dn K mg "asked_wide" s_asked_wide ["one", "two", "w"] := d_asked_wide.dn X G (fun _ _ _ _ _ _ us hl => match us, hl with | [_, _, _], _ => rfl)
  have D_near_of : Dn K mg "near_of" s_near_of ["one", "two", "w", "side", "i"] := d_near_of.dn X G (fun _ _ _ _ _ _ us hl => match us, hl with | [_, _, _, _, _], _ => rfl)
  have D_law_pool : Dn K mg "_law_pool" s_law_pool ["script", "k"] := d_law_pool.dn X G (fun _ _ _ _ _ _ us hl => match us, hl with | [_, _], _ => rfl)
  have D_law_take : Dn K mg "_law_take" s_law_take ["jar", "top"] := d_law_take.dn X G (fun _ _ _ _ _ _ us hl => match us, hl with | [_, _], _ => rfl)
  have D_law_one : Dn K mg "_law_one" s_law_one ["jar", "things"] := d_law_one.dn X G (fun _ _ _ _ _ _ us hl => match us, hl with | [_, _], _ => rfl)
  have D_law_odd_whole : Dn K mg "_law_odd_whole" s_law_odd_whole ["jar", "low", "high"] := d_law_odd_whole.dn X G (fun _ _ _ _ _ _ us hl => match us, hl with | [_, _, _], _ => rfl)
  have D_law_bent : Dn K mg "_law_bent" s_law_bent ["jar", "thing"] := d_law_bent.dn X G (fun _ _ _ _ _ _ us hl => match us, hl with | [_, _], _ => rfl)
  have D_law_is_whole : Dn K mg "_law_is_whole" s_law_is_whole ["thing"] := d_law_is_whole.dn X G (fun _ _ _ _ _ _ us hl => match us, hl with | [_], _ => rfl)
  have D_law_like : Dn K mg "_law_like" s_law_like ["told", "owed"] := d_law_like.dn X G (fun _ _ _ _ _ _ us hl => match us, hl with | [_, _], _ => rfl)
  have D_law_mt_is_bar : Dn K mg "_law_mt_is_bar" s_law_mt_is_bar ["thing"] := d_law_mt_is_bar.dn X G (fun _ _ _ _ _ _ us hl => match us, hl with | [_], _ => rfl)
  have D_law_mt_fault : Dn K mg "_law_mt_fault" s_law_mt_fault ["thing"] := d_law_mt_fault.dn X G (fun _ _ _ _ _ _ us hl => match us, hl with | [_], _ => rfl)
  have D_law_mt_cost : Dn K mg "_law_mt_cost" s_law_mt_cost ["one", "two"] := d_law_mt_cost.dn X G (fun _ _ _ _ _ _ us hl => match us, hl with | [_, _], _ => rfl)
  have D_law_mt_near : Dn K mg "_law_mt_near" s_law_mt_near ["bar", "others", "w"] := d_law_mt_near.dn X G (fun _ _ _ _ _ _ us hl => match us, hl with | [_, _, _], _ => rfl)
  have D_law_mt_there : Dn K mg "_law_mt_there" s_law_mt_there ["bars_now", "k", "s", "t"] := d_law_mt_there.dn X G (fun _ _ _ _ _ _ us hl => match us, hl with | [_, _, _, _], _ => rfl)
  have D_law_mt_bar_drawn : Dn K mg "_law_mt_bar_drawn" s_law_mt_bar_drawn ["jar", "top", "dims"] := d_law_mt_bar_drawn.dn X G (fun _ _ _ _ _ _ us hl => match us, hl with | [_, _, _], _ => rfl)
  have D_law_mt_bars_drawn : Dn K mg "_law_mt_bars_drawn" s_law_mt_bars_drawn ["jar", "many", "top", "dims"] := d_law_mt_bars_drawn.dn X G (fun _ _ _ _ _ _ us hl => match us, hl with | [_, _, _, _], _ => rfl)
  have D_law_mt_moved : Dn K mg "_law_mt_moved" s_law_mt_moved ["jar", "bars_now", "top", "far"] := d_law_mt_moved.dn X G (fun _ _ _ _ _ _ us hl => match us, hl with | [_, _, _, _], _ => rfl)
  have D_law_bl_said : DnL K mg "_law_bl_said" s_law_bl_said ["asked"] c_law_bl_said := by
    obtain ⟨oc, od, kV, doc, pm, an, ct, osl, a, lk, cd, kk⟩ := d_law_bl_said.ex
    exact ⟨⟨_, oc, od, .none, kV, doc, pm, an, ct, osl, lk, cd, kk, PySem.W.mg_of X G a, .all (fun us hl => match us, hl with | [_], _ => rfl)⟩⟩
  have D_law_bl_rows : Dn K mg "_law_bl_rows" s_law_bl_rows ["jar"] := d_law_bl_rows.dn X G (fun _ _ _ _ _ _ us hl => match us, hl with | [_], _ => rfl)
  have D_law_bl_made_right : DnL K mg "_law_bl_made_right" s_law_bl_made_right ["jar", "one"] c_law_bl_made_right := by
    obtain ⟨oc, od, kV, doc, pm, an, ct, osl, a, lk, cd, kk⟩ := d_law_bl_made_right.ex
    exact ⟨⟨_, oc, od, .none, kV, doc, pm, an, ct, osl, lk, cd, kk, PySem.W.mg_of X G a, .all (fun us hl => match us, hl with | [_, _], _ => rfl)⟩⟩
  have D_law_bl_counts_right : DnL K mg "_law_bl_counts_right" s_law_bl_counts_right ["jar", "one", "top"] c_law_bl_counts_right := by
    obtain ⟨oc, od, kV, doc, pm, an, ct, osl, a, lk, cd, kk⟩ := d_law_bl_counts_right.ex
    exact ⟨⟨_, oc, od, .none, kV, doc, pm, an, ct, osl, lk, cd, kk, PySem.W.mg_of X G a, .all (fun us hl => match us, hl with | [_, _, _], _ => rfl)⟩⟩
  have D_law_bl_near_right : Dn K mg "_law_bl_near_right" s_law_bl_near_right ["jar", "one", "two"] := d_law_bl_near_right.dn X G (fun _ _ _ _ _ _ us hl => match us, hl with | [_, _, _], _ => rfl)
  have D_law_bl_refused_right : DnL K mg "_law_bl_refused_right" s_law_bl_refused_right ["jar", "one", "two"] c_law_bl_refused_right := by
    obtain ⟨oc, od, kV, doc, pm, an, ct, osl, a, lk, cd, kk⟩ := d_law_bl_refused_right.ex
    exact ⟨⟨_, oc, od, .none, kV, doc, pm, an, ct, osl, lk, cd, kk, PySem.W.mg_of X G a, .all (fun us hl => match us, hl with | [_, _, _], _ => rfl)⟩⟩
  have D_law_bl_early : Dn K mg "_law_bl_early" s_law_bl_early ["s"] := d_law_bl_early.dn X G (fun _ _ _ _ _ _ us hl => match us, hl with | [_], _ => rfl)
  have T : Bt mg := ⟨PySem.W.mg_none_of X G b_range, PySem.W.mg_none_of X G b_len, PySem.W.mg_none_of X G b_int, PySem.W.mg_none_of X G b_bool, PySem.W.mg_none_of X G b_str, PySem.W.mg_none_of X G b_dict, PySem.W.mg_none_of X G b_tuple, PySem.W.mg_none_of X G b_list, PySem.W.mg_none_of X G b_isinstance, PySem.W.mg_none_of X G b_max, PySem.W.mg_none_of X G b_min, PySem.W.mg_none_of X G b_sorted, PySem.W.mg_none_of X G b_enumerate, PySem.W.mg_none_of X G b_abs, ⟨_, PySem.W.mg_of X G mb, ⟨_, rfl⟩⟩, hD, ⟨_, PySem.W.mg_of X G me, ⟨_, rfl⟩⟩, hW, ⟨_, PySem.W.mg_of X G mi, ⟨_, rfl⟩⟩⟩
  have mem4 : ∀ {Pc : Str → Prop}, Pc "BadMany" → Pc "TooMany" → Pc "BadBars" → Pc "BadIndex" → ∀ c ∈ cls4, Pc c := fun {Pc} h1 h2 h3 h4 c hc => by
    have hc' : c = "BadMany" ∨ c = "TooMany" ∨ c = "BadBars" ∨ c = "BadIndex" := by simpa [cls4] using hc
    rcases hc' with rfl | rfl | rfl | rfl
    · exact h1
    · exact h2
    · exact h3
    · exact h4
  have XA : XAll K mg (clOf C1 C2 C3 C4) fI cls4 := mem4 ⟨PySem.W.mg_of X G a1, ox1, iC1, no1⟩ ⟨PySem.W.mg_of X G a2, ox2, iC2, no2⟩ ⟨PySem.W.mg_of X G a3, ox3, iC3, no3⟩ ⟨PySem.W.mg_of X G a4, ox4, iC4, no4⟩
  have RI : RefI K mg s_init fI := ⟨⟨_, L2.fun_mk lI cdI kpI, .all (fun us hl => match us, hl with | [_, _], _ => rfl)⟩, tI, PySem.W.mg_none_of X G b_ValueError, ve⟩
  have R : RefN K mg CR (clOf C1 C2 C3 C4) cls4 := ⟨PySem.W.mg_of X G aR, mem4 (PySem.W.mg_of X G a1) (PySem.W.mg_of X G a2) (PySem.W.mg_of X G a3) (PySem.W.mg_of X G a4), mem4 em1 em2 em3 em4, mem4 ec1 ec2 ec3 ec4, mem4 xf1 xf2 xf3 xf4, mem4 no1 no2 no3 no4,
    mem4 (mem4 ki11 ki12 ki13 ki14) (mem4 ki21 ki22 ki23 ki24) (mem4 ki31 ki32 ki33 ki34) (mem4 ki41 ki42 ki43 ki44)⟩
  obtain ⟨oc, od, kV, doc, pm, an, ct, osl, a, lkL, cdL, kkL⟩ := d_law.ex
  refine ⟨_, [(c_law_bl_made_right, P1), (c_law_bl_counts_right, P2), (c_law_bl_refused_right, P3)], spLaw K [(P1, qMade), (P2, qCounts), (P3, qRef)], ?_, ?_, ?_, ?_, ?_, fun base hB hN hTB => ok_law lkL cdL T ?_ ?_ ?_ ?_ ?_ ?_ ?_⟩
  · intro p hp
    simp only [List.mem_cons, List.not_mem_nil, or_false] at hp
    rcases hp with rfl | rfl | rfl
    · exact t1
    · exact t2
    · exact t3
  · intro p hp
    simp only [List.mem_cons, List.not_mem_nil, or_false] at hp
    rcases hp with rfl | rfl | rfl
    · exact n1
    · exact n2
    · exact n3
  · intro p hp
    simp only [List.mem_cons, List.not_mem_nil, or_false] at hp
    rcases hp with rfl | rfl | rfl
    · exact PySem.W.codeHd_of_K X hd1
    · exact PySem.W.codeHd_of_K X hd2
    · exact PySem.W.codeHd_of_K X hd3
  · exact fun s u => .of_eq rfl
  · intro H a ns hl hb hH hS
    refine ⟨a, ns, rfl, hS, hl, fun p hp => ?_, fun _ => rfl⟩
    simp only [List.mem_cons, List.not_mem_nil, or_false] at hp
    rcases hp with rfl | rfl | rfl
    · exact TabS.nil (hH (c_law_bl_made_right, P1) (by simp))
    · exact TabS.nil (hH (c_law_bl_counts_right, P2) (by simp))
    · exact TabS.nil (hH (c_law_bl_refused_right, P3) (by simp))
  all_goals
    have iI := ok_init (P := l.prog) (w := w) (base := base) RI
    have C_whole := ok_whole (P := l.prog) (w := w) (base := base) D_whole T
    have C_many := ok_asked_many D_asked_many (XA "BadMany" (by simp)) iI C_whole
    have C_isbar := ok_is_bar D_is_bar T C_whole
    have C_wrong := ok_bars_wrong D_bars_wrong T C_isbar
    have C_bars := ok_asked_bars D_asked_bars XA iI C_wrong
    have C_made := ok_made_bars D_made_bars T C_bars
    have C_cost := ok_cost (P := l.prog) (w := w) (base := base) D_cost T
    have C_near := ok_is_near D_is_near C_cost
    have C_later := ok_later_bar (P := l.prog) (w := w) (base := base) D_later_bar T
    have C_count := ok_count_on D_count_on T C_bars C_many
    have C_shift := ok_shifted D_shifted T XA iI C_bars C_many C_later C_isbar
    have C_wide := ok_asked_wide D_asked_wide T C_bars C_many
    have C_nearof := ok_near_of D_near_of T XA iI C_wide C_many C_near
    have C_take := ok_take (P := l.prog) (w := w) (K := K) (base := base) D_law_take T
    have C_pool := ok_pool (P := l.prog) (w := w) (K := K) (base := base) D_law_pool T
    have C_one := ok_one D_law_one T C_take
    have C_odd := ok_odd_whole D_law_odd_whole C_one
    have C_isw := ok_is_whole (P := l.prog) (w := w) (K := K) (base := base) D_law_is_whole T
    have C_like := ok_like D_law_like T C_isw
    have C_bent := ok_bent D_law_bent T C_take C_one
    have C_lbar := ok_law_mt_is_bar D_law_mt_is_bar T C_isw
    have C_fault := ok_law_mt_fault D_law_mt_fault T C_lbar
    have C_lcost := ok_law_mt_cost (P := l.prog) (w := w) (K := K) (base := base) D_law_mt_cost T
    have C_lnear := ok_law_mt_near D_law_mt_near T C_lcost
    have C_there := ok_law_mt_there (P := l.prog) (w := w) (K := K) (base := base) D_law_mt_there T
    have C_early := ok_law_bl_early D_law_bl_early T C_isw
    have C_drawn := ok_law_mt_bar_drawn (K := K) D_law_mt_bar_drawn C_take
    have C_bdrawn := ok_law_mt_bars_drawn D_law_mt_bars_drawn T C_take C_one C_drawn
    have C_moved := ok_law_mt_moved (K := K) D_law_mt_moved T C_take
    have C_rows := ok_law_bl_rows D_law_bl_rows C_one C_take C_bdrawn C_moved
    have C_mr := ok_made_right (TT := [(P1, qMade), (P2, qCounts), (P3, qRef)]) D_law_bl_made_right D_law_bl_said T (hTB (c_law_bl_made_right, P1) (by simp)) (by simp) (fun p hp e => by
      simp only [List.mem_cons, List.not_mem_nil, or_false] at hp
      rcases hp with rfl | rfl | rfl
      · rfl
      · exact absurd e (Ne.symm np12)
      · exact absurd e (Ne.symm np13)
      ) R (C_bent 3) C_fault (C_like 5) C_made
    have C_cr := ok_counts_right (TT := [(P1, qMade), (P2, qCounts), (P3, qRef)]) D_law_bl_counts_right D_law_bl_said T (hTB (c_law_bl_counts_right, P2) (by simp)) (by simp) (fun p hp e => by
      simp only [List.mem_cons, List.not_mem_nil, or_false] at hp
      rcases hp with rfl | rfl | rfl
      · exact absurd e np12
      · rfl
      · exact absurd e (Ne.symm np23)
      ) R C_one C_take (C_like 4) C_count C_there C_lbar C_shift
    have C_nr := ok_near_right D_law_bl_near_right T C_one C_take (C_like 4) C_nearof C_lnear C_lcost
    have C_rr := ok_refused_right (TT := [(P1, qMade), (P2, qCounts), (P3, qRef)]) D_law_bl_refused_right D_law_bl_said T (hTB (c_law_bl_refused_right, P3) (by simp)) (by simp) (fun p hp e => by
      simp only [List.mem_cons, List.not_mem_nil, or_false] at hp
      rcases hp with rfl | rfl | rfl
      · exact absurd e np13
      · exact absurd e np23
      · rfl
      ) R (C_bent 3) C_odd C_fault (C_like 4) C_early C_count C_shift C_nearof
  · exact C_pool
  · exact C_rows
  · exact C_fault
  · exact C_mr
  · exact C_cr
  · exact C_nr
  · exact C_rr
end K22
end
section
set_option Elab.async false
open PySem PySem.W PyProof.Rows
set_option maxRecDepth 100000 in
set_option maxHeartbeats 0 in
theorem PySem.Challenge.cw_bornandshut_k22_bars_made_counted_near_holds : PySem.Challenge.rw_bornandshut_k22_bars_made_counted_near.Holds := by
  w_on; o_law; k_head; (case hw => w_witness2)
  k_fill
  refine LamX.walk_ofTsX (l := PySem.Challenge.rw_bornandshut_k22_bars_made_counted_near) (n := 63) (k := 10) (x := "script") (CX := fun _ => L2.CX0) rfl (by decide) rfl ⟨rfl, by decide, by decide⟩ (fun w h Y => PySem.W.km_in_of Y) ?F (fun _ _ _ _ _ z => z)
  case F =>
    intro w mg fa h Y KX G GX hmg
    refine' K22.all_mk (P1 := 278) (P2 := 285) (P3 := 295) KX G hmg ?hD ?hW ?d_whole ?d_asked_many ?d_is_bar ?d_bars_wrong ?d_asked_bars ?d_made_bars ?d_cost ?d_is_near ?d_later_bar ?d_count_on ?d_shifted ?d_asked_wide ?d_near_of ?d_law_pool ?d_law_take ?d_law_one ?d_law_odd_whole ?d_law_bent ?d_law_is_whole ?d_law_like ?d_law_mt_is_bar ?d_law_mt_fault ?d_law_mt_cost ?d_law_mt_near ?d_law_mt_there ?d_law_mt_bar_drawn ?d_law_mt_bars_drawn ?d_law_mt_moved ?d_law_bl_said ?d_law_bl_rows ?d_law_bl_made_right ?d_law_bl_counts_right ?d_law_bl_near_right ?d_law_bl_refused_right ?d_law_bl_early ?d_law ?hd1 ?n1 ?t1 ?hd2 ?n2 ?t2 ?hd3 ?n3 ?t3 ?np12 ?np13 ?np23 ?b_range ?b_len ?b_int ?b_bool ?b_str ?b_dict ?b_tuple ?b_list ?b_isinstance ?b_max ?b_min ?b_sorted ?b_enumerate ?b_abs ?b_ValueError ?mb ?me ?mi ?aR ?a1 ?ox1 ?iC1 ?no1 ?xf1 ?ec1 ?em1 ?ki11 ?ki12 ?ki13 ?ki14 ?a2 ?ox2 ?iC2 ?no2 ?xf2 ?ec2 ?em2 ?ki21 ?ki22 ?ki23 ?ki24 ?a3 ?ox3 ?iC3 ?no3 ?xf3 ?ec3 ?em3 ?ki31 ?ki32 ?ki33 ?ki34 ?a4 ?ox4 ?iC4 ?no4 ?xf4 ?ec4 ?em4 ?ki41 ?ki42 ?ki43 ?ki44 ?tI ?ve ?lI ?cdI ?kpI
    (case hD =>
      obtain ⟨v, h1, h2⟩ := GX.2.val ("MOST_DATE", WData.int 4000000) (by simp)
      refine ⟨v, h1, ?_⟩
      have h3 : ReadsLit h v (WData.int 4000000) [] := h2
      cases h3
      exact ⟨_, rfl⟩)
    (case hW =>
      obtain ⟨v, h1, h2⟩ := GX.2.val ("MOST_WIDE", WData.int 10000000) (by simp)
      refine ⟨v, h1, ?_⟩
      have h3 : ReadsLit h v (WData.int 10000000) [] := h2
      cases h3
      exact ⟨_, rfl⟩)
    (case d_whole => refine' LB.dnK_mk ?a ?l ?c ?k; (case a => k_is); (case l => k_is); (case c => k_is); (case k => k_is))
    (case d_asked_many => refine' LB.dnK_mk ?a ?l ?c ?k; (case a => k_is); (case l => k_is); (case c => k_is); (case k => k_is))
    (case d_is_bar => refine' LB.dnK_mk ?a ?l ?c ?k; (case a => k_is); (case l => k_is); (case c => k_is); (case k => k_is))
    (case d_bars_wrong => refine' LB.dnK_mk ?a ?l ?c ?k; (case a => k_is); (case l => k_is); (case c => k_is); (case k => k_is))
    (case d_asked_bars => refine' LB.dnK_mk ?a ?l ?c ?k; (case a => k_is); (case l => k_is); (case c => k_is); (case k => k_is))
    (case d_made_bars => refine' LB.dnK_mk ?a ?l ?c ?k; (case a => k_is); (case l => k_is); (case c => k_is); (case k => k_is))
    (case d_cost => refine' LB.dnK_mk ?a ?l ?c ?k; (case a => k_is); (case l => k_is); (case c => k_is); (case k => k_is))
    (case d_is_near => refine' LB.dnK_mk ?a ?l ?c ?k; (case a => k_is); (case l => k_is); (case c => k_is); (case k => k_is))
    (case d_later_bar => refine' LB.dnK_mk ?a ?l ?c ?k; (case a => k_is); (case l => k_is); (case c => k_is); (case k => k_is))
    (case d_count_on => refine' LB.dnK_mk ?a ?l ?c ?k; (case a => k_is); (case l => k_is); (case c => k_is); (case k => k_is))
    (case d_shifted => refine' LB.dnK_mk ?a ?l ?c ?k; (case a => k_is); (case l => k_is); (case c => k_is); (case k => k_is))
    (case d_asked_wide => refine' LB.dnK_mk ?a ?l ?c ?k; (case a => k_is); (case l => k_is); (case c => k_is); (case k => k_is))
    (case d_near_of => refine' LB.dnK_mk ?a ?l ?c ?k; (case a => k_is); (case l => k_is); (case c => k_is); (case k => k_is))
    (case d_law_pool => refine' LB.dnK_mk ?a ?l ?c ?k; (case a => k_is); (case l => k_is); (case c => k_is); (case k => k_is))
    (case d_law_take => refine' LB.dnK_mk ?a ?l ?c ?k; (case a => k_is); (case l => k_is); (case c => k_is); (case k => k_is))
    (case d_law_one => refine' LB.dnK_mk ?a ?l ?c ?k; (case a => k_is); (case l => k_is); (case c => k_is); (case k => k_is))
    (case d_law_odd_whole => refine' LB.dnK_mk ?a ?l ?c ?k; (case a => k_is); (case l => k_is); (case c => k_is); (case k => k_is))
    (case d_law_bent => refine' LB.dnK_mk ?a ?l ?c ?k; (case a => k_is); (case l => k_is); (case c => k_is); (case k => k_is))
    (case d_law_is_whole => refine' LB.dnK_mk ?a ?l ?c ?k; (case a => k_is); (case l => k_is); (case c => k_is); (case k => k_is))
    (case d_law_like => refine' LB.dnK_mk ?a ?l ?c ?k; (case a => k_is); (case l => k_is); (case c => k_is); (case k => k_is))
    (case d_law_mt_is_bar => refine' LB.dnK_mk ?a ?l ?c ?k; (case a => k_is); (case l => k_is); (case c => k_is); (case k => k_is))
    (case d_law_mt_fault => refine' LB.dnK_mk ?a ?l ?c ?k; (case a => k_is); (case l => k_is); (case c => k_is); (case k => k_is))
    (case d_law_mt_cost => refine' LB.dnK_mk ?a ?l ?c ?k; (case a => k_is); (case l => k_is); (case c => k_is); (case k => k_is))
    (case d_law_mt_near => refine' LB.dnK_mk ?a ?l ?c ?k; (case a => k_is); (case l => k_is); (case c => k_is); (case k => k_is))
    (case d_law_mt_there => refine' LB.dnK_mk ?a ?l ?c ?k; (case a => k_is); (case l => k_is); (case c => k_is); (case k => k_is))
    (case d_law_mt_bar_drawn => refine' LB.dnK_mk ?a ?l ?c ?k; (case a => k_is); (case l => k_is); (case c => k_is); (case k => k_is))
    (case d_law_mt_bars_drawn => refine' LB.dnK_mk ?a ?l ?c ?k; (case a => k_is); (case l => k_is); (case c => k_is); (case k => k_is))
    (case d_law_mt_moved => refine' LB.dnK_mk ?a ?l ?c ?k; (case a => k_is); (case l => k_is); (case c => k_is); (case k => k_is))
    (case d_law_bl_said => refine' LB.dnK_mk ?a ?l ?c ?k; (case a => k_is); (case l => k_is); (case c => k_is); (case k => k_is))
    (case d_law_bl_rows => refine' LB.dnK_mk ?a ?l ?c ?k; (case a => k_is); (case l => k_is); (case c => k_is); (case k => k_is))
    (case d_law_bl_made_right => refine' LB.dnK_mk ?a ?l ?c ?k; (case a => k_is); (case l => k_is); (case c => k_is); (case k => k_is))
    (case d_law_bl_counts_right => refine' LB.dnK_mk ?a ?l ?c ?k; (case a => k_is); (case l => k_is); (case c => k_is); (case k => k_is))
    (case d_law_bl_near_right => refine' LB.dnK_mk ?a ?l ?c ?k; (case a => k_is); (case l => k_is); (case c => k_is); (case k => k_is))
    (case d_law_bl_refused_right => refine' LB.dnK_mk ?a ?l ?c ?k; (case a => k_is); (case l => k_is); (case c => k_is); (case k => k_is))
    (case d_law_bl_early => refine' LB.dnK_mk ?a ?l ?c ?k; (case a => k_is); (case l => k_is); (case c => k_is); (case k => k_is))
    (case d_law => refine' LB.dnK_mk ?a ?l ?c ?k; (case a => k_is); (case l => k_is); (case c => k_is); (case k => k_is))
    (case hd1 => kernel_rfl)
    (case n1 => kernel_rfl)
    (case t1 => exact PySem.W.km_tabs_of Y 278 (by decide))
    (case hd2 => kernel_rfl)
    (case n2 => kernel_rfl)
    (case t2 => exact PySem.W.km_tabs_of Y 285 (by decide))
    (case hd3 => kernel_rfl)
    (case n3 => kernel_rfl)
    (case t3 => exact PySem.W.km_tabs_of Y 295 (by decide))
    (case np12 => decide)
    (case np13 => decide)
    (case np23 => decide)
    (case b_range => k_is)
    (case b_len => k_is)
    (case b_int => k_is)
    (case b_bool => k_is)
    (case b_str => k_is)
    (case b_dict => k_is)
    (case b_tuple => k_is)
    (case b_list => k_is)
    (case b_isinstance => k_is)
    (case b_max => k_is)
    (case b_min => k_is)
    (case b_sorted => k_is)
    (case b_enumerate => k_is)
    (case b_abs => k_is)
    (case b_ValueError => k_is)
    (case mb => k_is)
    (case me => k_is)
    (case mi => k_is)
    (case aR => k_is)
    (case a1 => k_is)
    (case ox1 => refine' LB.oex_mk ?cl ?bm ?sa ?ex ?ty ?kc; (case cl => k_is); (case bm => decide +kernel); (case sa => k_is); (case ex => k_is); (case ty => k_is); (case kc => k_is))
    (case iC1 => k_is)
    (case no1 => k_is)
    (case xf1 => refine' ⟨?q1, ?q2, ?q3, ?q4⟩; (case q1 => k_is); (case q2 => k_is); (case q3 => k_is); (case q4 => k_is))
    (case ec1 => refine' ⟨?q1, ?q2, ?q3, ?q4, ?q5, ?q6, ?q7, ?q8⟩; (case q1 => k_is); (case q2 => k_is); (case q3 => k_is); (case q4 => k_is); (case q5 => k_is); (case q6 => k_is); (case q7 => k_is); (case q8 => k_is))
    (case em1 => refine' PySem.W.exm_ref ?q1 ?q2 ?q3 ?q4; (case q1 => k_is); (case q2 => k_is); (case q3 => k_is); (case q4 => k_is))
    (case ki11 => exact if_pos (beq_self_eq_true _))
    (case ki12 => kernel_rfl)
    (case ki13 => kernel_rfl)
    (case ki14 => kernel_rfl)
    (case a2 => k_is)
    (case ox2 => refine' LB.oex_mk ?cl ?bm ?sa ?ex ?ty ?kc; (case cl => k_is); (case bm => decide +kernel); (case sa => k_is); (case ex => k_is); (case ty => k_is); (case kc => k_is))
    (case iC2 => k_is)
    (case no2 => k_is)
    (case xf2 => refine' ⟨?q1, ?q2, ?q3, ?q4⟩; (case q1 => k_is); (case q2 => k_is); (case q3 => k_is); (case q4 => k_is))
    (case ec2 => refine' ⟨?q1, ?q2, ?q3, ?q4, ?q5, ?q6, ?q7, ?q8⟩; (case q1 => k_is); (case q2 => k_is); (case q3 => k_is); (case q4 => k_is); (case q5 => k_is); (case q6 => k_is); (case q7 => k_is); (case q8 => k_is))
    (case em2 => refine' PySem.W.exm_ref ?q1 ?q2 ?q3 ?q4; (case q1 => k_is); (case q2 => k_is); (case q3 => k_is); (case q4 => k_is))
    (case ki21 => kernel_rfl)
    (case ki22 => exact if_pos (beq_self_eq_true _))
    (case ki23 => kernel_rfl)
    (case ki24 => kernel_rfl)
    (case a3 => k_is)
    (case ox3 => refine' LB.oex_mk ?cl ?bm ?sa ?ex ?ty ?kc; (case cl => k_is); (case bm => decide +kernel); (case sa => k_is); (case ex => k_is); (case ty => k_is); (case kc => k_is))
    (case iC3 => k_is)
    (case no3 => k_is)
    (case xf3 => refine' ⟨?q1, ?q2, ?q3, ?q4⟩; (case q1 => k_is); (case q2 => k_is); (case q3 => k_is); (case q4 => k_is))
    (case ec3 => refine' ⟨?q1, ?q2, ?q3, ?q4, ?q5, ?q6, ?q7, ?q8⟩; (case q1 => k_is); (case q2 => k_is); (case q3 => k_is); (case q4 => k_is); (case q5 => k_is); (case q6 => k_is); (case q7 => k_is); (case q8 => k_is))
    (case em3 => refine' PySem.W.exm_ref ?q1 ?q2 ?q3 ?q4; (case q1 => k_is); (case q2 => k_is); (case q3 => k_is); (case q4 => k_is))
    (case ki31 => kernel_rfl)
    (case ki32 => kernel_rfl)
    (case ki33 => exact if_pos (beq_self_eq_true _))
    (case ki34 => kernel_rfl)
    (case a4 => k_is)
    (case ox4 => refine' LB.oex_mk ?cl ?bm ?sa ?ex ?ty ?kc; (case cl => k_is); (case bm => decide +kernel); (case sa => k_is); (case ex => k_is); (case ty => k_is); (case kc => k_is))
    (case iC4 => k_is)
    (case no4 => k_is)
    (case xf4 => refine' ⟨?q1, ?q2, ?q3, ?q4⟩; (case q1 => k_is); (case q2 => k_is); (case q3 => k_is); (case q4 => k_is))
    (case ec4 => refine' ⟨?q1, ?q2, ?q3, ?q4, ?q5, ?q6, ?q7, ?q8⟩; (case q1 => k_is); (case q2 => k_is); (case q3 => k_is); (case q4 => k_is); (case q5 => k_is); (case q6 => k_is); (case q7 => k_is); (case q8 => k_is))
    (case em4 => refine' PySem.W.exm_ref ?q1 ?q2 ?q3 ?q4; (case q1 => k_is); (case q2 => k_is); (case q3 => k_is); (case q4 => k_is))
    (case ki41 => kernel_rfl)
    (case ki42 => kernel_rfl)
    (case ki43 => kernel_rfl)
    (case ki44 => exact if_pos (beq_self_eq_true _))
    (case tI => k_is)
    (case ve => k_is)
    (case lI => k_is)
    (case cdI => k_is)
    (case kpI => k_is)
#print axioms PySem.Challenge.cw_bornandshut_k22_bars_made_counted_near_holds
end
