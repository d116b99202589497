import PyProof.Rows.All
import Wide.All
import OpenK.AllK
import Wide.FinOn
import KE.KStateDown
import Lean
import HandS.ForMost
import HandS.More
import HandS.IsInst
import HandS.TupAny
import HandS.Defaults
import HandS.DictComp
import HandS.Walk
import HandS.Head0
import HandS.Head1
import HandS.Head2
import HandS.HeadEnd
import HandS.HeadHook1
import HandS.HeadHook2
import PySem.Challenge.RW_hunch_k01_values
set_option Elab.async false
set_option linter.all false
set_option maxRecDepth 100000
set_option maxHeartbeats 4000000
set_option autoImplicit false
/-! The layer of these proofs: a def's promise by its name, readings of the heap by plain equations, frames. -/
namespace Hn
open PySem PySem.Spec PyProof.Rows L2

/-! ### sizes: what stands in the heap is within the line -/
def HSz (H : Hp) : Prop := ∀ a, (∀ xs, H a = some (.lst xs) → xs.length ≤ sizeLine) ∧ (∀ xs, H a = some (.tup xs) → xs.length ≤ sizeLine) ∧ ∀ kvs, H a = some (.dK kvs) → kvs.length ≤ sizeLine
theorem hsz_of {X : Cx} {pins : List (Addr × Obj)} {σ : List (Option V)} {H : Hp} {s : Shared} (I : Inv X pins σ H s) : HSz H := fun a => by
  refine ⟨fun xs h => ?_, fun xs h => ?_, fun xs h => ?_⟩
  · obtain ⟨z, _⟩ := I.hok a _ h; exact z
  · obtain ⟨z, _⟩ := I.hok a _ h; exact z
  · obtain ⟨z, _⟩ := I.hok a _ h; exact z
theorem pssSz {X : Cx} {b : List Stmt} {t : TS} (h : PSs X b t) : PSs X b (fun D σ H => HSz H → t D σ H) := ⟨fun pins s σ H D I q => h.run pins s σ H D I (q (hsz_of I))⟩

/-! ### defs by name -/
section
variable (P : Program) (w : World) (K : PySem.W.Frag) (mg : Str → Option Value) (base : Heap)
/-- the function object at f -/
def FuncAt (K : PySem.W.Frag) (f : Addr) (fd : FuncData) : Prop := ∃ oc od osl, K.lookup f = some ⟨oc, od, .func fd, osl⟩
/-- the module's def x keeps sp, k calls deep at most -/
def OkF (k : Nat) (x : Str) (ps : List Str) (sp : Sp) : Prop :=
  ∃ f fd, FnOk P w K mg base CX0 k f fd ps sp ∧ mg x = some (.ref f) ∧ PySem.W.keepIn K (.ref f) = true ∧ Binds K fd ps [] ∧ FuncAt K f fd
/-- the def st stands under the name x -/
def DefAt (x : Str) (st : Stmt) : Prop := ∃ f fd, FunD K x x (defArgs st) (defBody st) (defScope st) [] [] f fd ∧ mg x = some (.ref f)
end
section
variable {P : Program} {w : World} {K : PySem.W.Frag} {mg : Str → Option Value} {base : Heap}
theorem funcAt {x qual : Str} {params : Arguments} {body : List Stmt} {scope : Scope} {dvs : List V} {kws : List (Str × V)} {f : Addr} {fd : FuncData} (F : FunD K x qual params body scope dvs kws f fd) : FuncAt K f fd := by
  obtain ⟨oc, od, _, _, _, _, _, _, _, osl, _, e, _⟩ := F.ex
  exact ⟨oc, od, osl, e⟩
theorem FuncAt.uni {f : Addr} {fd fd' : FuncData} (a : FuncAt K f fd) (b : FuncAt K f fd') : fd = fd' := by
  obtain ⟨_, _, _, e⟩ := a
  obtain ⟨_, _, _, e'⟩ := b
  rw [e] at e'
  simp only [Option.some.injEq, Obj.mk.injEq, Data.func.injEq] at e'
  exact e'.2.2.1
theorem OkF.mono {j k : Nat} {x : Str} {ps : List Str} {sp : Sp} (F : OkF P w K mg base j x ps sp) (h : j ≤ k) : OkF P w K mg base k x ps sp := by
  obtain ⟨f, fd, F, a, b, c, d⟩ := F
  exact ⟨f, fd, F.mono h, a, b, c, d⟩
theorem DefAt.ok {x : Str} {st : Stmt} {N ps : List Str} {k : Nat} {sp : Sp} (D : DefAt K mg x st) (S : FnScope N ps (defScope st))
    (hb : ∀ (kV doc pm : Value) (an : Option Addr) (cdv ct : Value) (us : List Value), us.length = ps.length → bindArgs (PySem.W.fnOf x x (defArgs st) (defBody st) (defScope st) .none kV doc pm an cdv ct) ⟨us, []⟩ = pure (ps.zip us))
    (len : ∀ vs H Q E, sp vs H Q E → vs.length = ps.length)
    (hbody : ∀ (f : Addr) (cdv : Value) (A : Around) (outer : List Env) (s : Shared) (H : Hp) (vs : List V) (Q : VK) (E : XK), Room k (A.deeper (envOfC x (defScope st) s.heap.objs.size f cdv)) → sp vs H Q E →
      ∃ t, PSs (cxOf CX0 P w K mg base N x (defScope st) f cdv A outer s H E).nox (defBody st) t ∧ (HSz H → t { nx := fun _ H' => Q .non H', rt := Q } (start N vs) H)) : OkF P w K mg base (k + 1) x ps sp := by
  obtain ⟨f, fd, F, hm⟩ := D
  refine ⟨f, fd, F.ok S len fun cdv A outer s H vs Q E hr h => ?_, hm, F.kp, F.bindsN hb, funcAt F⟩
  obtain ⟨t, h1, h2⟩ := hbody f cdv A outer s H vs Q E hr h
  exact ⟨_, (pssSz h1).nox, h2⟩
/-- nothing is asked: nothing is to be kept -/
theorem DefAt.none {x : Str} {st : Stmt} {ps : List Str} {sp : Sp} (D : DefAt K mg x st)
    (hb : ∀ (kV doc pm : Value) (an : Option Addr) (cdv ct : Value) (us : List Value), us.length = ps.length → bindArgs (PySem.W.fnOf x x (defArgs st) (defBody st) (defScope st) .none kV doc pm an cdv ct) ⟨us, []⟩ = pure (ps.zip us))
    (no : ∀ vs H Q E, ¬ sp vs H Q E) : OkF P w K mg base 0 x ps sp := by
  obtain ⟨f, fd, F, hm⟩ := D
  exact ⟨f, fd, ⟨fun vs H Q E h => absurd h (no vs H Q E), fun A outer s H args us vs Q E _ _ _ _ h => absurd h (no vs H Q E)⟩, hm, F.kp, F.bindsN hb, funcAt F⟩
end
section
variable {X : Cx} {k : Nat} {x : Str} {ps : List Str} {sp : Sp} {e : Expr} {es : List Expr} {t : TA} {p pos : Pos}
theorem pe_callF (F : OkF X.prog X.w X.K X.mg X.base k x ps sp) (hr : Room k X.A) (hg : Gl X x) (ha : PA X (e :: es) t) (hdb : (x == ("__debug__" : Str)) = false := by decide) (he : starEach (e :: es) X.env = (false, eval e X.env) :: starEach es X.env := by rfl) (hpl : (backTo pos (starEach es X.env)).any (·.1) = false := by rfl) :
    PE X (.Call (.Name x p) (e :: es) [] pos) (tCall sp [] E0 t) := by
  obtain ⟨f, fd, F, hm, kp, b, _⟩ := F
  exact pe_call F hr hg hm kp b .nil pass0 ha hdb he hpl
end

/-! ### weaker readings -/
section
variable {X : Cx}
theorem peM {e : Expr} {t t' : TE} (h : PE X e t) (m : ∀ σ H Q, t' σ H Q → t σ H Q) : PE X e t' := ⟨fun pins s σ H Q I q => h.run pins s σ H Q I (m σ H Q q)⟩
theorem ptM {e : Expr} {t t' : TT} (h : PT X e t) (m : ∀ σ H Q, t' σ H Q → t σ H Q) : PT X e t' := ⟨fun pins s σ H Q I q => h.run pins s σ H Q I (m σ H Q q)⟩
theorem psM {e : Stmt} {t t' : TS} (h : PS X e t) (m : ∀ D σ H, t' D σ H → t D σ H) : PS X e t' := ⟨fun pins s σ H D I q => h.run pins s σ H D I (m D σ H q)⟩
/-- what follows may be weaker -/
def tMono (t : TE) : TE := fun σ H Q => ∃ Q0 : VK, t σ H Q0 ∧ ∀ x H1, Q0 x H1 → Q x H1
theorem mo {e : Expr} {t : TE} (h : PE X e t) : PE X e (tMono t) := by
  refine ⟨fun pins s σ H Q I ⟨Q0, h0, m⟩ => ?_⟩
  refine thn (h.run pins s σ H Q0 I h0) fun u s' ⟨v, H', I', r, q⟩ => ⟨v, H', I', r, m v H' q⟩
def tMonoA (t : TA) : TA := fun σ H Q => ∃ Q0 : List V → Hp → Prop, t σ H Q0 ∧ ∀ x H1, Q0 x H1 → Q x H1
theorem moA {es : List Expr} {t : TA} (h : PA X es t) : PA X es (tMonoA t) := by
  refine ⟨fun pos pins s σ H Q I ⟨Q0, h0, m⟩ => ?_⟩
  refine thn (h.run pos pins s σ H Q0 I h0) fun u s' ⟨v, H', I', r, q⟩ => ⟨v, H', I', r, m v H' q⟩
theorem opM {f : Value → Value → Sem Value} {r r' : R2} (h : OpR X f r) (m : ∀ x y H Q, r' x y H Q → r x y H Q) : OpR X f r' := fun pins s σ H x y v u Q I rx ry q => h pins s σ H x y v u Q I rx ry (m x y H Q q)
theorem ixM {r r' : R2} (h : IxR X r) (m : ∀ x y H Q, r' x y H Q → r x y H Q) : IxR X r' := fun a b pins s σ H x y v u Q I rx ry q => h a b pins s σ H x y v u Q I rx ry (m x y H Q q)
theorem clM {f : Value} {r r' : List V → Hp → VK → Prop} (h : CallR X f r) (m : ∀ xs H Q, r' xs H Q → r xs H Q) : CallR X f r' := fun pins s σ H xs us Q I r q => h pins s σ H xs us Q I r (m xs H Q q)
end

/-! ### a new object, a changed object -/
structure Al (H : Hp) (p : Addr) (o : HO) (H' : Hp) : Prop where
  new : H p = none
  at_ : H' p = some o
  k : ∀ {b u}, H b = some u → H' b = some u
structure Mu (H : Hp) (p : Addr) (o : HO) (H' : Hp) : Prop where
  nt : ∀ xs, H p ≠ some (.tup xs)
  at_ : H' p = some o
  k : ∀ {b u}, H b = some u → b ≠ p → H' b = some u
theorem Al.of {H : Hp} {p : Addr} {o : HO} (h : H p = none) : Al H p o (upd H p o) := ⟨h, upd_same, fun e => by rw [upd_ne (ne_of_none e h)]; exact e⟩
theorem Mu.of {H : Hp} {p : Addr} {o u : HO} (h : H p = some u) (hu : ∀ xs, u ≠ .tup xs) : Mu H p o (upd H p o) :=
  ⟨fun xs e => hu xs (by rw [h] at e; exact Option.some.inj e), upd_same, fun e ne => by rw [upd_ne ne]; exact e⟩

/-! ### readings of the heap by equations -/
def rXL : R2 := fun x y H Q => ∃ p xs i v, x = .ref p ∧ y = .int i ∧ H p = some (.lst xs) ∧ atI xs i = some v ∧ Q v H
def rXT : R2 := fun x y H Q => ∃ p xs i v, x = .ref p ∧ y = .int i ∧ H p = some (.tup xs) ∧ atI xs i = some v ∧ Q v H
/-- x in a tuple that was just laid -/
def rInT (neg : Bool) : R2 := fun x y H Q => ∃ p xs, y = .ref p ∧ H p = some (.tup xs) ∧ flatV x = true ∧ xs.all flatV = true ∧ Q (.bl (if neg then !inV x xs else inV x xs)) H
def rLenL : List V → Hp → VK → Prop := fun vs H Q => ∃ p xs, vs = [.ref p] ∧ H p = some (.lst xs) ∧ Q (.int xs.length) H
def rLenT : List V → Hp → VK → Prop := fun vs H Q => ∃ p xs, vs = [.ref p] ∧ H p = some (.tup xs) ∧ Q (.int xs.length) H
def rLenS : List V → Hp → VK → Prop := fun vs H Q => ∃ z, vs = [.str z] ∧ z.length ≤ sizeLine ∧ Q (.int z.length) H
def rInt1 : List V → Hp → VK → Prop := fun vs H Q => (∃ i, vs = [.int i] ∧ Q (.int i) H) ∨ ∃ k, vs = [.bl k] ∧ Q (.int (if k then 1 else 0)) H
def rTupL : List V → Hp → VK → Prop := fun vs H Q => ∃ p xs, vs = [.ref p] ∧ H p = some (.lst xs) ∧ ∀ l H', Al H l (.tup xs) H' → Q (.ref l) H'
def rLstL : List V → Hp → VK → Prop := fun vs H Q => ∃ p xs, vs = [.ref p] ∧ H p = some (.lst xs) ∧ ∀ l H', Al H l (.lst xs) H' → Q (.ref l) H'
/-- isinstance(x, a built-in class) -/
def rIs (T : String) : List V → Hp → VK → Prop := fun vs H Q => ∃ x b, vs = [x, .ty T] ∧ (∃ n, (match x with
  | .non => n = "NoneType"
  | .bl _ => n = "bool"
  | .int _ => n = "int"
  | .str _ => n = "str"
  | .ref a => (match H a with
    | some (.lst _) => n = "list"
    | some (.tup _) => n = "tuple"
    | some (.dK _) => n = "dict"
    | _ => False)
  | _ => False) ∧ kitB n T = some b) ∧ Q (.bl b) H
/-- a list of ints beside another -/
def rEqI : R2 := fun x y H Q => ∃ (p q : Addr) (ns ms : List Int), x = .ref p ∧ y = .ref q ∧ H p = some (.lst (ns.map V.int)) ∧ H q = some (.lst (ms.map V.int)) ∧ Q (.bl (decide (ns = ms))) H
def rCt : R2 := fun x y H Q => ∃ l b xs zs, x = .ref l ∧ y = .ref b ∧ H l = some (.lst xs) ∧ H b = some (.lst zs) ∧ xs.length + zs.length ≤ sizeLine ∧ ∀ p H', Al H p (.lst (xs ++ zs)) H' → Q (.ref p) H'
def rStL : V → V → V → Hp → (Hp → Prop) → Prop := fun o i v H Q => ∃ p xs k j, o = .ref p ∧ i = .int k ∧ H p = some (.lst xs) ∧ ixN xs.length k = some j ∧ ∀ H', Mu H p (.lst (xs.set j v)) H' → Q H'
def rSL : V → Option Int → Option Int → Hp → VK → Prop := fun x lo hi H Q => ∃ a xs, x = .ref a ∧ H a = some (.lst xs) ∧ ∀ p H', Al H p (.lst (cutV xs lo hi)) H' → Q (.ref p) H'
section
variable {X : Cx} {a b o : Expr} {ta tb : TE} {pos : Pos}
theorem ix_l : IxR X rXL := ixM ix_list fun _ _ _ _ ⟨p, xs, i, v, e1, e2, h, e, q⟩ => ⟨p, xs, i, v, e1, e2, SqL.of h, e, q⟩
theorem ix_t : IxR X rXT := ixM ix_tup fun _ _ _ _ ⟨p, xs, i, v, e1, e2, h, e, q⟩ => ⟨p, xs, i, v, e1, e2, SqT.of h, e, q⟩
theorem op_inT : OpR X (compareOp .In) (rInT false) := opM op_in_seq fun _ _ _ _ ⟨p, xs, e, h, h1, h2, q⟩ => ⟨p, xs, e, .inr (SqT.of h), h1, h2, q⟩
theorem op_ninT : OpR X (compareOp .NotIn) (rInT true) := opM op_notIn_seq fun _ _ _ _ ⟨p, xs, e, h, h1, h2, q⟩ => ⟨p, xs, e, .inr (SqT.of h), h1, h2, q⟩
theorem cl_lenL : CallR X (.builtin "len") rLenL := clM call_len_seq fun _ _ _ ⟨p, xs, e, h, q⟩ => ⟨p, xs, e, .inl (SqL.of h), q⟩
theorem cl_lenT : CallR X (.builtin "len") rLenT := clM call_len_seq fun _ _ _ ⟨p, xs, e, h, q⟩ => ⟨p, xs, e, .inr (SqT.of h), q⟩
theorem cl_lenS : CallR X (.builtin "len") rLenS := call_len_str
theorem cl_int1 : CallR X (.type "int") rInt1 := call_int1
theorem cl_tupL : CallR X (.type "tuple") rTupL := clM call_tuple_of fun _ _ _ ⟨p, xs, e, h, q⟩ => ⟨p, xs, e, .inl ⟨SqL.of h, fun l hl => q l _ (.of hl)⟩⟩
theorem cl_lstL : CallR X (.type "list") rLstL := clM call_list_of fun _ _ _ ⟨p, xs, e, h, q⟩ => ⟨p, xs, e, .inl (SqL.of h), fun l hl => q l _ (.of hl)⟩
theorem op_ct : OpR X (binaryOp .Add) rCt := opM op_cat fun _ _ _ _ ⟨l, b, xs, zs, e1, e2, h1, h2, hz, q⟩ => ⟨l, b, xs, zs, e1, e2, h1, h2, hz, fun p hp => q p _ (.of hp)⟩
theorem set_l : PSet X rStL := fun pins s σ H o i v ov iv u Q I ro ri rv ⟨p, xs, k, j, e1, e2, h, hj, q⟩ => set_list pins s σ H o i v ov iv u Q I ro ri rv ⟨p, xs, k, j, e1, e2, h, hj, q _ (.of h fun _ z => by cases z)⟩
theorem sl_l : SlR X rSL := fun pins s σ H x v vl vu lo hi sl Q I rx hs pl pu ⟨a, xs, e, h, q⟩ => sl_list pins s σ H x v vl vu lo hi sl Q I rx hs pl pu ⟨a, xs, e, SqL.of h, fun p hp => q p _ (.of hp)⟩
theorem cl_is {T : String} : CallR X (.builtin "isinstance") (rIs T) := by
  refine clM call_isi ?_
  rintro vs H Q ⟨x, b, e, ⟨n, hn, hk⟩, q⟩
  refine ⟨x, .ty T, .type n, .type T, b, e, .ty T, ?_, kit_ty hk, q⟩
  cases x with
  | non => cases hn; exact .base .non
  | bl b => cases hn; exact .base (.bl b)
  | int i => cases hn; exact .base (.int i)
  | str s => cases hn; exact .base (.str s)
  | ref a =>
    have hn' : (match H a with
      | some (.lst _) => n = "list"
      | some (.tup _) => n = "tuple"
      | some (.dK _) => n = "dict"
      | _ => False) := hn
    cases ea : H a with
    | none => rw [ea] at hn'; exact hn'.elim
    | some u =>
      rw [ea] at hn'
      cases u with
      | lst xs => cases hn'; exact .base (.lst ea)
      | tup xs => cases hn'; exact .base (.tup ea)
      | dK kvs => cases hn'; exact .base (.dK ea)
      | _ => exact hn'.elim
  | _ => exact hn.elim
end

/-! ### words: texts that differ -/
def wds : List Str := (["num", "text", "name", "add", "sub", "less", "same", "say", "set", "unless", "go", "top", "end", "row"] : List Str) ++ ((["if", "while",
  "turn", "get", "is", "so", "put", "again", "leave", "n", "t", "any", "done", "dry"] : List Str) ++ (["mixed", "else",
  "place", "names", "half", "left", "said", "last", "rows", "many", "slots", "kinds", "stack", "made"] : List Str))
def wd (i : Nat) : Str := wds.getD i ""
theorem wds_nd : wds.Nodup := by decide +kernel
theorem wds_len : wds.length = 42 := by decide +kernel
theorem wd_get {i : Nat} (h : i < 42) : wds[i]? = some (wd i) := by
  have h' : i < wds.length := by rw [wds_len]; exact h
  unfold wd
  rw [List.getD_eq_getElem?_getD, List.getElem?_eq_getElem h']
  rfl
/-- two words of the list are one only at one place -/
theorem wd_eq {i j : Nat} (hi : i < 42) (hj : j < 42) : (wd i = wd j) = (i = j) := by
  refine propext ⟨fun e => ?_, fun e => by rw [e]⟩
  have h1 := wd_get hi
  have h2 := wd_get hj
  rw [← e] at h2
  exact nd_ix wds_nd h1 h2
theorem wd_ne0 {i : Nat} (hi : i < 42) : (wd i = ("" : Str)) = False := by
  refine eq_false fun e => ?_
  have a : ("" : Str) ∉ wds := by decide +kernel
  exact a (by rw [← e]; exact List.mem_of_getElem? (wd_get hi))
theorem wd_ne0' {i : Nat} (hi : i < 42) : (("" : Str) = wd i) = False := (propext eq_comm).trans (wd_ne0 hi)
theorem eqV_str (a b : Str) : eqV (.str a) (.str b) = decide (a = b) := by
  show (a == b) = decide (a = b)
  by_cases e : a = b
  · subst e; simp
  · rw [decide_eq_false e]; exact beq_eq_false_iff_ne.mpr e
theorem eqV_int (a b : Int) : eqV (.int a) (.int b) = decide (a = b) := by
  show (a == b) = decide (a = b)
  by_cases e : a = b
  · subst e; simp
  · rw [decide_eq_false e]; exact beq_eq_false_iff_ne.mpr e
theorem eqV_is (a : Int) (b : Str) : eqV (.int a) (.str b) = false := rfl
theorem eqV_si (a : Int) (b : Str) : eqV (.str b) (.int a) = false := rfl
theorem inV_nil (x : V) : inV x [] = false := rfl
theorem inV_cons (x y : V) (ys : List V) : inV x (y :: ys) = (eqV y x || inV x ys) := rfl

/-! ### items at written places -/
theorem atI0 {α : Type} (x : α) (r : List α) : atI (x :: r) 0 = some x := atI_nat (j := 0) rfl
theorem atI1 {α : Type} (x y : α) (r : List α) : atI (x :: y :: r) 1 = some y := atI_nat (j := 1) rfl
theorem atI2 {α : Type} (x y z : α) (r : List α) : atI (x :: y :: z :: r) 2 = some z := atI_nat (j := 2) rfl
theorem atI3 {α : Type} (x y z u : α) (r : List α) : atI (x :: y :: z :: u :: r) 3 = some u := atI_nat (j := 3) rfl
theorem ixN_n {n j : Nat} (hj : j < n) : ixN n (j : Int) = some j := by
  unfold ixN
  rw [if_pos (by omega), if_pos (by omega)]
  simp
theorem ixN0 {α : Type} (x : α) (r : List α) : ixN (x :: r).length 0 = some 0 := ixN_n (j := 0) (by simp)
theorem ixN1 {α : Type} (x y : α) (r : List α) : ixN (x :: y :: r).length 1 = some 1 := ixN_n (j := 1) (by simp)
theorem ixN2 {α : Type} (x y z : α) (r : List α) : ixN (x :: y :: z :: r).length 2 = some 2 := ixN_n (j := 2) (by simp)
theorem ixN3 {α : Type} (x y z u : α) (r : List α) : ixN (x :: y :: z :: u :: r).length 3 = some 3 := ixN_n (j := 3) (by simp)
theorem atI_of {α : Type} {xs : List α} {i : Int} (h0 : 0 ≤ i) (h1 : i < xs.length) : ∃ v, atI xs i = some v ∧ v ∈ xs := by
  have h : i.toNat < xs.length := by omega
  have e : atI xs ((i.toNat : Nat) : Int) = some xs[i.toNat] := atI_nat (List.getElem?_eq_getElem h)
  rw [Int.toNat_of_nonneg h0] at e
  exact ⟨_, e, List.getElem_mem h⟩

/-! ### more rules -/
def rAddS : R2 := fun x y H Q => ∃ i j, x = .str i ∧ y = .str j ∧ i.length + j.length ≤ sizeLine ∧ Q (.str (i ++ j)) H
def rLtS : R2 := fun x y H Q => ∃ i j, x = .str i ∧ y = .str j ∧ Q (.bl (decide (i.cps.toList < j.cps.toList))) H
def rInS1 : R2 := fun x y H Q => ∃ (c : Nat) (z : Str), x = .str ⟨#[c]⟩ ∧ y = .str z ∧ Q (.bl (decide (c ∈ z.cps.toList))) H
def rNinS1 : R2 := fun x y H Q => ∃ (c : Nat) (z : Str), x = .str ⟨#[c]⟩ ∧ y = .str z ∧ Q (.bl (!decide (c ∈ z.cps.toList))) H
def rIsN : R2 := fun x y H Q => y = .non ∧ Q (.bl (decide (x = .non))) H
def rNotN : R2 := fun x y H Q => y = .non ∧ Q (.bl (!decide (x = .non))) H
/-- a list of ints beside an empty one -/
def rEqE : R2 := fun x y H Q => ∃ (p q : Addr) (ns : List Int), x = .ref p ∧ y = .ref q ∧ H p = some (.lst (ns.map V.int)) ∧ H q = some (.lst []) ∧ Q (.bl ns.isEmpty) H
def rXQ : R2 := fun x y H Q => ∃ p xs i v, x = .ref p ∧ y = .int i ∧ (H p = some (.lst xs) ∨ H p = some (.tup xs)) ∧ atI xs i = some v ∧ Q v H
def rLenQ : List V → Hp → VK → Prop := fun vs H Q => ∃ p xs, vs = [.ref p] ∧ (H p = some (.lst xs) ∨ H p = some (.tup xs)) ∧ Q (.int xs.length) H
def rLenK (K : PySem.W.Frag) : List V → Hp → VK → Prop := fun xs H Q => ∃ p ys, xs = [.ref p] ∧ (SqL K H p ys ∨ SqT K H p ys) ∧ Q (.int ys.length) H
def rLstK (K : PySem.W.Frag) : List V → Hp → VK → Prop := fun xs H Q => ∃ p ys, xs = [.ref p] ∧ (SqL K H p ys ∨ SqT K H p ys) ∧ ∀ l H', Al H l (.lst ys) H' → Q (.ref l) H'
def tApp (to te : TE) : TE := fun σ H Q => to σ H fun x H1 => ∃ l xs', x = .ref l ∧ H1 l = some (.lst xs') ∧ te σ H1 fun y H2 => ∃ xs, H2 l = some (.lst xs) ∧ xs.length < sizeLine ∧ ∀ H', Mu H2 l (.lst (xs ++ [y])) H' → Q .non H'
def tPopAt (to te : TE) : TE := fun σ H Q => to σ H fun x H1 => ∃ l xs', x = .ref l ∧ H1 l = some (.lst xs') ∧ te σ H1 fun y H2 => ∃ x0 xs, y = .int 0 ∧ H2 l = some (.lst (x0 :: xs)) ∧ ∀ H', Mu H2 l (.lst xs) H' → Q x0 H'
def tPopL (to : TE) : TE := fun σ H Q => to σ H fun x H1 => ∃ l xs y, x = .ref l ∧ H1 l = some (.lst xs) ∧ xs[xs.length - 1]? = some y ∧ ∀ H', Mu H1 l (.lst xs.dropLast) H' → Q y H'
def tJoinL (to te : TE) : TE := fun σ H Q => to σ H fun x H1 => ∃ a : Str, x = .str a ∧ te σ H1 fun y H2 => ∃ (p : Addr) (ys : List Str), y = .ref p ∧ H2 p = some (.lst (ys.map V.str)) ∧
  (ys.map (·.length)).sum + ys.length * a.length ≤ 16777216 ∧ Q (.str (Txt.join a ys)) H2
/-- displays -/
def xTup (t : TA) : TE := fun σ H Q => t σ H fun xs H1 => xs.length ≤ sizeLine ∧ ∀ p H2, Al H1 p (.tup xs) H2 → Q (.ref p) H2
def xLst (t : TA) : TE := fun σ H Q => t σ H fun xs H1 => xs.length ≤ sizeLine ∧ ∀ p H2, Al H1 p (.lst xs) H2 → Q (.ref p) H2
def xDic : TE := fun _ H Q => ∀ p H2, Al H p (.dK []) H2 → Q (.ref p) H2
def tIndex (to te : TE) : TE := fun σ H Q => to σ H fun x H1 => ∃ a ys', x = .ref a ∧ H1 a = some (.lst ys') ∧ te σ H1 fun y H2 => ∃ (ys : List V) (j : Nat) (z : V), H2 a = some (.lst ys) ∧ flatV y = true ∧ ys.all flatV = true ∧
  ys[j]? = some z ∧ eqV z y = true ∧ (∀ (m : Nat) (z' : V), m < j → ys[m]? = some z' → eqV z' y = false) ∧ Q (.int (j : Nat)) H2
section
variable {X : Cx} {a b o e : Expr} {ta tb to te : TE} {pos : Pos}
theorem cl_lstK : CallR X (.type "list") (rLstK X.K) := clM call_list_of fun _ _ _ ⟨p, xs, e, h, q⟩ => ⟨p, xs, e, h, fun l hl => q l _ (.of hl)⟩
theorem pe_tupX {es : List Expr} {x1 : Nat} {t : TA} (h : PA X es t) : PE X (.Tuple es x1 pos) (xTup t) := peM (pe_tup (moA h)) fun σ H Q h => ⟨_, h, fun xs H1 ⟨hl, q⟩ => ⟨hl, fun p hp => q p _ (.of hp)⟩⟩
theorem pe_lstX {es : List Expr} {t : TA} (h : PA X es t) : PE X (.List es pos) (xLst t) := peM (pe_lst (moA h)) fun σ H Q h => ⟨_, h, fun xs H1 ⟨hl, q⟩ => ⟨hl, fun p hp => q p _ (.of hp)⟩⟩
theorem pe_dicX : PE X (.Dict [] [] pos) xDic := peM pe_dnewK fun σ H Q h p hp => h p _ (.of hp)
theorem op_addS : OpR X (binaryOp .Add) rAddS := op_add_str
theorem op_ltS : OpR X (compareOp .Lt) rLtS := op_lt_str
theorem op_inS1 : OpR X (compareOp .In) rInS1 := op_in_sign
theorem op_ninS : OpR X (compareOp .NotIn) rNinS1 := op_notIn_sign
theorem op_isN1 : OpR X (compareOp .Is) rIsN := op_isN
theorem op_notN1 : OpR X (compareOp .IsNot) rNotN := op_notN
theorem cl_lenQ : CallR X (.builtin "len") rLenQ := clM call_len_seq fun _ _ _ ⟨p, xs, e, h, q⟩ => ⟨p, xs, e, h.imp SqL.of SqT.of, q⟩
theorem ix_q : IxR X rXQ := ixM (IxR.or ix_list ix_tup) fun _ _ _ _ ⟨p, xs, i, v, e1, e2, h, e, q⟩ => h.elim (fun h => .inl ⟨p, xs, i, v, e1, e2, SqL.of h, e, q⟩) fun h => .inr ⟨p, xs, i, v, e1, e2, SqT.of h, e, q⟩
theorem pe_int_glob {x : Str} {i : Int} (hg : Gl X x) (hm : ∃ t, X.mg x = some (.int i t)) (hd : (x == ("__debug__" : Str)) = false := by decide) : PE X (.Name x pos) (tC (.int i)) := by
  obtain ⟨t, hm⟩ := hm
  exact pe_glob hg hm ⟨t, rfl⟩ hd
theorem pe_str_glob {x i : Str} (hg : Gl X x) (hm : ∃ t, X.mg x = some (.str i t)) (hd : (x == ("__debug__" : Str)) = false := by decide) : PE X (.Name x pos) (tC (.str i)) := by
  obtain ⟨t, hm⟩ := hm
  exact pe_glob hg hm ⟨t, rfl⟩ hd
theorem dp_ints {K : PySem.W.Frag} {H : Hp} : ∀ ns : List Int, DpAll K H (ns.map V.int) (ns.map PyData.int)
  | [] => .nil
  | _ :: r => .cons (.int _) (dp_ints r)
theorem lay_ints : ∀ ns : List Int, PyData.canLayAll0 (ns.map PyData.int) = true ∧ PyData.depthAll (ns.map PyData.int) = 0
  | [] => ⟨rfl, rfl⟩
  | n :: r => by
    obtain ⟨h1, h2⟩ := lay_ints r
    refine ⟨?_, ?_⟩
    · show (PyData.canLay0 (.int n) && PyData.canLayAll0 (r.map PyData.int)) = true
      rw [h1] <;> rfl
    · show max (PyData.depth (.int n)) (PyData.depthAll (r.map PyData.int)) = 0
      rw [h2] <;> rfl
theorem shaped_ints (ns : List Int) : SeqAt.shaped (.list (ns.map PyData.int)) = true := by
  obtain ⟨h1, h2⟩ := lay_ints ns
  unfold SeqAt.shaped
  have e1 : PyData.canLay0 (.list (ns.map PyData.int)) = true := by simp only [PyData.canLay0]; exact h1
  have e2 : PyData.depth (.list (ns.map PyData.int)) = 1 := by simp only [PyData.depth]; rw [h2]
  rw [e1, e2] <;> rfl
theorem op_eqE (hu : X.A.units + 64 < cLine) : OpR X (compareOp .Eq) rEqE := by
  refine opM (op_eqD hu) ?_
  rintro x y H Q ⟨p, q, ns, e1, e2, h1, h2, k⟩
  subst e1 e2
  refine ⟨.list (ns.map PyData.int), .list [], .lst (SqL.of h1) (dp_ints ns), .lst (SqL.of h2) .nil, shaped_ints ns, rfl, ?_⟩
  have e : PyData.eqv (.list (ns.map PyData.int)) (.list []) = ns.isEmpty := by cases ns <;> rfl
  rw [e]; exact k
variable {apos cpos : Pos}
theorem pe_app (ho : PE X o to) (he : PE X e te) (hbase : attributeBase o "append" X.env (eval o X.env) = eval o X.env := by rfl)
    (hfew : ((backTo cpos (starEach (e :: []) X.env)).all (fun x => !x.1) && (backToKw cpos (keywordEach [] X.env)).all (fun x => x.1.isSome)
      && decide ((e :: ([] : List Expr)).length + ([] : List Keyword).length + (if ([] : List Keyword).isEmpty then 0 else 1) < 30)) = true := by rfl)
    (hline : (apos.endLine == cpos.line) = true := by rfl) (hs : starEach (e :: []) X.env = (false, eval e X.env) :: starEach [] X.env := by rfl) (hplain : (backTo cpos (starEach ([] : List Expr) X.env)).any (·.1) = false := by rfl) :
    PE X (.Call (.Attribute o "append" apos) [e] [] cpos) (tApp to te) := by
  refine peM (pe_bm PySem.F.plainAttrs_list PySem.F.slot_list_append PySem.F.type_list_append mt_append (mo ho) (pa_cons (mo he) pa_nil hs) hbase hfew hline hs hplain) ?_
  intro σ H Q h
  refine ⟨_, h, ?_⟩
  rintro x H1 ⟨l, xs', rfl, h1, h⟩
  refine ⟨Or.inl ⟨rfl, _, SqL.of h1⟩, _, h, ?_⟩
  rintro y H2 ⟨xs, h2, hz, q⟩
  exact ⟨l, xs, y, rfl, rfl, h2, hz, q _ (.of h2 fun _ z => by cases z)⟩
theorem pe_popAt (ho : PE X o to) (he : PE X e te) (hbase : attributeBase o "pop" X.env (eval o X.env) = eval o X.env := by rfl)
    (hfew : ((backTo cpos (starEach (e :: []) X.env)).all (fun x => !x.1) && (backToKw cpos (keywordEach [] X.env)).all (fun x => x.1.isSome)
      && decide ((e :: ([] : List Expr)).length + ([] : List Keyword).length + (if ([] : List Keyword).isEmpty then 0 else 1) < 30)) = true := by rfl)
    (hline : (apos.endLine == cpos.line) = true := by rfl) (hs : starEach (e :: []) X.env = (false, eval e X.env) :: starEach [] X.env := by rfl) (hplain : (backTo cpos (starEach ([] : List Expr) X.env)).any (·.1) = false := by rfl) :
    PE X (.Call (.Attribute o "pop" apos) [e] [] cpos) (tPopAt to te) := by
  refine peM (pe_bm PySem.F.plainAttrs_list PySem.F.slot_list_pop PySem.F.type_list_pop mt_popAt (mo ho) (pa_cons (mo he) pa_nil hs) hbase hfew hline hs hplain) ?_
  intro σ H Q h
  refine ⟨_, h, ?_⟩
  rintro x H1 ⟨l, xs', rfl, h1, h⟩
  refine ⟨Or.inl ⟨rfl, _, SqL.of h1⟩, _, h, ?_⟩
  rintro y H2 ⟨x0, xs, rfl, h2, q⟩
  exact ⟨l, x0 :: xs, 0, 0, x0, rfl, rfl, h2, by decide, by decide, seqIndex_of (by decide) (by simp), rfl, q _ (.of h2 fun _ z => by cases z)⟩
theorem pe_index (ho : PE X o to) (he : PE X e te) (hbase : attributeBase o "index" X.env (eval o X.env) = eval o X.env := by rfl)
    (hfew : ((backTo cpos (starEach (e :: []) X.env)).all (fun x => !x.1) && (backToKw cpos (keywordEach [] X.env)).all (fun x => x.1.isSome)
      && decide ((e :: ([] : List Expr)).length + ([] : List Keyword).length + (if ([] : List Keyword).isEmpty then 0 else 1) < 30)) = true := by rfl)
    (hline : (apos.endLine == cpos.line) = true := by rfl) (hs : starEach (e :: []) X.env = (false, eval e X.env) :: starEach [] X.env := by rfl) (hplain : (backTo cpos (starEach ([] : List Expr) X.env)).any (·.1) = false := by rfl) :
    PE X (.Call (.Attribute o "index" apos) [e] [] cpos) (tIndex to te) := by
  refine peM (pe_bm PySem.F.plainAttrs_list PySem.F.slot_list_index PySem.F.type_list_index mt_index (mo ho) (pa_cons (mo he) pa_nil hs) hbase hfew hline hs hplain) ?_
  intro σ H Q h
  refine ⟨_, h, ?_⟩
  rintro x H1 ⟨a, ys', rfl, h1, h⟩
  refine ⟨Or.inl ⟨rfl, _, SqL.of h1⟩, _, h, ?_⟩
  rintro y H2 ⟨ys, j, z, h2, f1, f2, hj, hz, hno, q⟩
  exact ⟨a, ys, y, j, z, rfl, rfl, SqL.of h2, f1, f2, hj, hz, hno, q⟩
theorem pe_popL (ho : PE X o to) (hbase : attributeBase o "pop" X.env (eval o X.env) = eval o X.env := by rfl) (hline : (apos.endLine == cpos.line) = true := by rfl) : PE X (.Call (.Attribute o "pop" apos) [] [] cpos) (tPopL to) := by
  refine peM (pe_bm0 PySem.F.plainAttrs_list PySem.F.slot_list_pop PySem.F.type_list_pop mt_pop (mo ho) hbase hline) ?_
  intro σ H Q h
  refine ⟨_, h, ?_⟩
  rintro x H1 ⟨l, xs, y, rfl, h1, hy, q⟩
  exact ⟨Or.inl ⟨rfl, _, SqL.of h1⟩, l, xs, y, rfl, rfl, h1, hy, q _ (.of h1 fun _ z => by cases z)⟩
theorem pe_joinL (ho : PE X o to) (he : PE X e te) (hs : starEach [e] X.env = [(false, eval e X.env)] := by rfl) (hbase : attributeBase o "join" X.env (eval o X.env) = eval o X.env := by rfl) (hline : (apos.endLine == cpos.line) = true := by rfl) :
    PE X (.Call (.Attribute o "join" apos) [e] [] cpos) (tJoinL to te) := by
  refine peM (pe_join (mo ho) (mo he) hs hbase hline) ?_
  intro σ H Q h
  refine ⟨_, h, ?_⟩
  rintro x H1 ⟨a, rfl, h⟩
  refine ⟨⟨a, rfl⟩, _, h, ?_⟩
  rintro y H2 ⟨p, ys, rfl, h2, hz, q⟩
  exact ⟨a, p, ys, rfl, rfl, .inl (SqL.of h2), hz, q⟩
end
end Hn

namespace Hn
open PySem PySem.Spec PyProof.Rows L2
/-! ### frames: what stands outside S stands on; tuples stand on -/
structure Fr (S : List Addr) (H H' : Hp) : Prop where
  keep : ∀ b o, H b = some o → b ∉ S → H' b = some o
  tups : ∀ b xs, H b = some (.tup xs) → H' b = some (.tup xs)
section
variable {S S' : List Addr} {H H1 H2 : Hp} {p : Addr} {o : HO}
theorem Fr.refl (S : List Addr) (H : Hp) : Fr S H H := ⟨fun _ _ h _ => h, fun _ _ h => h⟩
theorem Fr.trans (a : Fr S H H1) (b : Fr S H1 H2) : Fr S H H2 := ⟨fun c o h hc => b.keep c o (a.keep c o h hc) hc, fun c xs h => b.tups c xs (a.tups c xs h)⟩
theorem Fr.mono (a : Fr S H H1) (h : ∀ b ∈ S, b ∈ S') : Fr S' H H1 := ⟨fun c o e hc => a.keep c o e fun z => hc (h c z), a.tups⟩
theorem Fr.sub0 (a : Fr [] H H1) : Fr S H H1 := a.mono (by simp)
theorem Fr.new (h : H p = none) : Fr S H (upd H p o) := ⟨fun b u e _ => by rw [upd_ne (ne_of_none e h)]; exact e, fun b xs e => by rw [upd_ne (ne_of_none e h)]; exact e⟩
theorem Fr.mut {u : HO} (h : H p = some u) (hp : p ∈ S) (hu : ∀ xs, u ≠ .tup xs) : Fr S H (upd H p o) := by
  refine ⟨fun b z e hb => ?_, fun b xs e => ?_⟩
  · rw [upd_ne fun e' => hb (by rw [e']; exact hp)]; exact e
  · rw [upd_ne fun e' => ?_]; exact e
    rw [e', h] at e
    exact hu xs (Option.some.inj e)
theorem Al.fr {H' : Hp} (a : Al H p o H') : Fr S H H' := ⟨fun _ _ e _ => a.k e, fun _ _ e => a.k e⟩
theorem Mu.fr {H' : Hp} (a : Mu H p o H') (hp : p ∈ S) : Fr S H H' :=
  ⟨fun _ _ e hb => a.k e fun z => hb (by rw [z]; exact hp), fun b xs e => a.k e fun z => a.nt xs (by rw [← z]; exact e)⟩
theorem Fr.al {H' : Hp} (f : Fr S H H1) (a : Al H1 p o H') : Fr S H H' := f.trans a.fr
theorem Fr.mu {H' : Hp} (f : Fr S H H1) (a : Mu H1 p o H') (hp : p ∈ S) : Fr S H H' := f.trans (a.fr hp)
theorem Fr.free (a : Fr S H H1) (h : H1 p = none) (hp : p ∉ S) : H p = none := by
  cases e : H p with
  | none => rfl
  | some u => rw [a.keep p u e hp] at h; cases h
/-- an address that H does not know may leave S -/
theorem Fr.drop (a : Fr (p :: S) H H1) (h : H p = none) : Fr S H H1 := ⟨fun b u e hb => a.keep b u e (by
  intro z
  rcases List.mem_cons.mp z with z | z
  · rw [z, h] at e; cases e
  · exact hb z), a.tups⟩
theorem Fr.l {xs : List V} {a : Addr} (f : Fr S H H1) (h : H a = some (.lst xs)) (ha : a ∉ S) : H1 a = some (.lst xs) := f.keep a _ h ha
end

/-! ### data: values of any depth -/
mutual
inductive Rp (H : Hp) : V → PyData → Prop
  | non : Rp H .non .none
  | bl (b : Bool) : Rp H (.bl b) (.bool b)
  | int (i : Int) : Rp H (.int i) (.int i)
  | str (x : Str) : Rp H (.str x) (.str x)
  | lst {a : Addr} {xs : List V} {ds : List PyData} : H a = some (.lst xs) → RpAll H xs ds → Rp H (.ref a) (.list ds)
  | tup {a : Addr} {xs : List V} {ds : List PyData} : H a = some (.tup xs) → RpAll H xs ds → Rp H (.ref a) (.tuple ds)
inductive RpAll (H : Hp) : List V → List PyData → Prop
  | nil : RpAll H [] []
  | cons {v : V} {vs : List V} {d : PyData} {ds : List PyData} : Rp H v d → RpAll H vs ds → RpAll H (v :: vs) (d :: ds)
end
theorem RpAll.length {H : Hp} : ∀ {vs : List V} {ds : List PyData}, RpAll H vs ds → vs.length = ds.length
  | _, _, .nil => rfl
  | _, _, .cons _ r => congrArg Nat.succ r.length
theorem RpAll.get {H : Hp} : ∀ {vs : List V} {ds : List PyData} {i : Nat} {d : PyData}, RpAll H vs ds → ds[i]? = some d → ∃ v, vs[i]? = some v ∧ Rp H v d
  | _, _, _, _, .nil, e => by simp at e
  | _, _, 0, _, .cons h _, e => by
    have e' := Option.some.inj e
    subst e'
    exact ⟨_, rfl, h⟩
  | _, _, i + 1, d, .cons _ r, e => r.get (i := i) (d := d) e

/-! ### the box of the law: a list of ints and a number -/
def BoxAt (H : Hp) (b l : Addr) : Prop := b ≠ l ∧ ∃ (ns : List Int) (s : Int), H b = some (.lst [.ref l, .int s]) ∧ H l = some (.lst (ns.map V.int)) ∧ 0 ≤ s ∧ s < 2147483647
theorem BoxAt.keep {H H1 : Hp} {b l : Addr} (B : BoxAt H b l) (f : Fr [] H H1) : BoxAt H1 b l := by
  obtain ⟨ne, ns, s, h1, h2, h3⟩ := B
  exact ⟨ne, ns, s, f.keep _ _ h1 (by simp), f.keep _ _ h2 (by simp), h3⟩

/-! ### loops and comprehensions -/
theorem st_seq {t u : TS} {D : Ends} {σ : L2.St} {H : Hp} (h : t { D with nx := u D } σ H) : tSeq t u D σ H := h
section
variable {ta : TA} {te tl : TE} {g : TG} {tt : TT} {tb : TS} {vs : List Nat} {j : Nat} {σ : L2.St} {H : Hp} {Q : VK} {D : Ends} {K : PySem.W.Frag}
/-- a turn of a comprehension -/
def LcTurn (g : TG) (tt : TT) (te : TE) (vs : List Nat) (σ : L2.St) (L : Addr) (Nx : Hp → Prop) (x : V) (H' : Hp) : Prop := g x (wipe σ vs) H' fun σ2 H2 => wipe σ2 vs = wipe σ vs ∧ tt σ2 H2 fun b H3 =>
  if b = true then te σ2 H3 fun y H4 => ∃ acc, H4 L = some (.lst acc) ∧ acc.length < sizeLine ∧ Nx (upd H4 L (.lst (acc ++ [y]))) else Nx H3
theorem lcR {n : Int} (hv : ∀ R : List V → Hp → Prop, R [.int n] H → ta σ H R) (b0 : 0 ≤ n) (b1 : n < 4611686018427387904)
    (h : ∀ L, H L = none → ∃ Pv : Nat → Hp → Prop, Pv 0 (upd H L (.lst [])) ∧ (∀ (i : Nat) Hc, (i : Int) < n → Pv i Hc → LcTurn g tt te vs σ L (Pv (i + 1)) (.int (i : Int)) Hc) ∧ ∀ Hc, Pv n.toNat Hc → Q (.ref L) Hc) :
    tLc (iRng1 ta) g tt te vs σ H Q := by
  refine hv _ ⟨n, rfl, by omega, by omega, fun L hL => ?_⟩
  obtain ⟨Pv, h0, hs, hd⟩ := h L hL
  refine lc_it walk_range Pv h0 (fun _ _ _ _ => trivial) (fun i x H1 H2 hi p y => ?_) hd
  obtain ⟨e1, e2⟩ := y
  have e2' : x = .int (0 + (i : Int)) := e2
  rw [Int.zero_add] at e2'
  subst e1 e2'
  exact hs i _ (by omega) p
theorem lcS {z : Str} (hv : ∀ R : VK, R (.str z) H → te σ H R) {te' : TE}
    (h : ∀ L, H L = none → ∃ Pv : Nat → Hp → Prop, Pv 0 (upd H L (.lst [])) ∧ (∀ (i : Nat) c Hc, z.cps.toList[i]? = some c → Pv i Hc → LcTurn g tt te' vs σ L (Pv (i + 1)) (.str ⟨#[c]⟩) Hc) ∧ ∀ Hc, Pv z.cps.toList.length Hc → Q (.ref L) Hc) :
    tLc (iStr te) g tt te' vs σ H Q := by
  refine hv _ ⟨z, rfl, fun L hL => ?_⟩
  obtain ⟨Pv, h0, hs, hd⟩ := h L hL
  refine lc_it walk_str Pv h0 (fun _ _ _ _ => trivial) (fun i x H1 H2 hi p y => ?_) (by simpa using hd)
  obtain ⟨e1, c, e2, e3⟩ := y
  subst e1 e3
  exact hs i c _ (by simpa using e2) p
theorem forR {n : Int} (hv : ∀ R : List V → Hp → Prop, R [.int n] H → ta σ H R) (b0 : 0 ≤ n) (b1 : n < 4611686018427387904) (Pv : Nat → L2.St → Hp → Prop) (h0 : Pv 0 σ H)
    (hs : ∀ (i : Nat) σ' H', (i : Int) < n → Pv i σ' H' → tb { D with nx := Pv (i + 1), ct := Pv (i + 1), bk := D.nx } (σ'.set j (some (.int (i : Int)))) H') (hd : ∀ σ' H', Pv n.toNat σ' H' → D.nx σ' H') :
    tFor (iRng1 ta) (gName j) tb D σ H := by
  refine hv _ ⟨n, rfl, by omega, by omega, for_it walk_range Pv h0 (fun _ _ _ _ _ => trivial) (fun i x σ1 H1 H2 hi p y => ?_) hd⟩
  obtain ⟨e1, e2⟩ := y
  have e2' : x = .int (0 + (i : Int)) := e2
  rw [Int.zero_add] at e2'
  subst e1 e2'
  exact hs i σ1 _ (by omega) p
theorem forT {a : Addr} {xs : List V} (hv : ∀ R : VK, R (.ref a) H → tl σ H R) (hx : H a = some (.tup xs)) (Pv : Nat → L2.St → Hp → Prop) (h0 : Pv 0 σ H) (hl : ∀ i σ' H', Pv i σ' H' → H' a = some (.tup xs))
    (hs : ∀ (i : Nat) x σ' H', xs[i]? = some x → Pv i σ' H' → tb { D with nx := Pv (i + 1), ct := Pv (i + 1), bk := D.nx } (σ'.set j (some x)) H') (hd : ∀ σ' H', Pv xs.length σ' H' → D.nx σ' H') :
    tFor (iTup K tl) (gName j) tb D σ H := by
  refine hv _ ⟨a, rfl, ⟨xs, SqT.of hx⟩, for_it walk_tup Pv h0 (fun i σ' H' _ p => SqT.of (hl i σ' H' p)) (fun i x σ1 H1 H2 hi p y => ?_) hd⟩
  obtain ⟨e1, e2⟩ := y
  subst e1
  exact hs i x σ1 _ e2 p
theorem forS {z : Str} (hv : ∀ R : VK, R (.str z) H → te σ H R) (Pv : Nat → L2.St → Hp → Prop) (h0 : Pv 0 σ H)
    (hs : ∀ (i : Nat) c σ' H', z.cps.toList[i]? = some c → Pv i σ' H' → tb { D with nx := Pv (i + 1), ct := Pv (i + 1), bk := D.nx } (σ'.set j (some (.str ⟨#[c]⟩))) H') (hd : ∀ σ' H', Pv z.cps.toList.length σ' H' → D.nx σ' H') :
    tFor (iStr te) (gName j) tb D σ H := by
  refine hv _ ⟨z, rfl, for_it walk_str Pv h0 (fun _ _ _ _ _ => trivial) (fun i x σ1 H1 H2 hi p y => ?_) (by simpa using hd)⟩
  obtain ⟨e1, c, e2, e3⟩ := y
  subst e1 e3
  exact hs i c σ1 _ (by simpa using e2) p
end
/-- a new list that a frame does not see may change -/
theorem Fr.muN {S : List Addr} {H H1 H2 : Hp} {p : Addr} {o : HO} (f : Fr S H H1) (a : Mu H1 p o H2) (h : H p = none) : Fr S H H2 :=
  Fr.drop ((f.mono fun _ z => List.mem_cons_of_mem _ z).mu a (List.mem_cons_self ..)) h

/-! ### values of programs -/
/-- a number or a text -/
inductive Vl where
  | n (i : Int)
  | t (z : Str)
  deriving DecidableEq
def Vl.v : Vl → V
  | .n i => .int i
  | .t z => .str z
def Txt12 (z : Str) : Prop := z.cps.toList.length ≤ 12 ∧ ∀ c ∈ z.cps.toList, 97 ≤ c ∧ c < 123
def Vl.ok : Vl → Prop
  | .n i => 0 ≤ i ∧ i < 10007
  | .t z => Txt12 z
theorem Vl.v_inj {x y : Vl} : (x.v = y.v) = (x = y) := by
  refine propext ⟨fun e => ?_, fun e => by rw [e]⟩
  cases x <;> cases y <;> simp_all [Vl.v]
/-- the four signs -/
inductive Sg where
  | add | sub | less | same
  deriving DecidableEq
def Sg.ix : Sg → Nat
  | .add => 3
  | .sub => 4
  | .less => 5
  | .same => 6
def Sg.s (s : Sg) : Str := wd s.ix
def Vl.kd : Vl → Str
  | .n _ => wd 23
  | .t _ => wd 24
def Vl.so : Vl → Bool
  | .n i => !decide (i = 0)
  | .t z => !decide (z = ("" : Str))
def cut12 (a b : Str) : Str := cutS (a ++ b) none (some 12)
def subT (a b : Str) : Str := ⟨(a.cps.toList.filter fun c => !decide (c ∈ b.cps.toList)).toArray⟩
def b2n (b : Bool) : Int := if b then 1 else 0
/-- what a sign makes -/
def wk : Sg → Vl → Vl → Option Vl
  | .same, x, y => some (.n (b2n (decide (x = y))))
  | .add, .n i, .n j => some (.n ((i + j) % 10007))
  | .sub, .n i, .n j => some (.n ((i - j) % 10007))
  | .less, .n i, .n j => some (.n (b2n (decide (i < j))))
  | .add, .t a, .t b => some (.t (cut12 a b))
  | .sub, .t a, .t b => some (.t (subT a b))
  | .less, .t a, .t b => some (.n (b2n (decide (a.cps.toList < b.cps.toList))))
  | _, _, _ => none
def ov : Option Vl → V
  | none => .non
  | some x => x.v
/-! ### promises -/
def sp_L_take : Sp := fun vs H Q _ => ∃ (b l : Addr) (m : Int), vs = [.ref b, .int m] ∧ BoxAt H b l ∧ 0 < m ∧ m < 1073741824 ∧ ∀ r H', 0 ≤ r → r < m → BoxAt H' b l → Fr [b, l] H H' → Q (.int r) H'
theorem len_L_take (vs : List V) (H : Hp) (Q : VK) (E : XK) (h : sp_L_take vs H Q E) : vs.length = 2 := by
  obtain ⟨_, _, _, rfl, _⟩ := h
  rfl
def sp_L_script (K : PySem.W.Frag) : Sp := fun vs H Q _ => ∃ (a : Addr) (ns : List Int), vs = [.ref a] ∧ SqL K H a (ns.map V.int) ∧ ns.length ≤ 63 ∧ ∀ b l H', BoxAt H' b l → Fr [] H H' → Q (.ref b) H'
theorem len_L_script {K : PySem.W.Frag} (vs : List V) (H : Hp) (Q : VK) (E : XK) (h : sp_L_script K vs H Q E) : vs.length = 1 := by
  obtain ⟨_, _, rfl, _⟩ := h
  rfl
def sp_L_text : Sp := fun vs H Q _ => ∃ (b l : Addr), vs = [.ref b] ∧ BoxAt H b l ∧ ∀ z H', Txt12 z → BoxAt H' b l → Fr [b, l] H H' → Q (.str z) H'
theorem len_L_text (vs : List V) (H : Hp) (Q : VK) (E : XK) (h : sp_L_text vs H Q E) : vs.length = 1 := by
  obtain ⟨_, _, rfl, _⟩ := h
  rfl
def sp_L_value : Sp := fun vs H Q _ => ∃ (b l : Addr), vs = [.ref b] ∧ BoxAt H b l ∧ ∀ (x : Vl) H', x.ok → BoxAt H' b l → Fr [b, l] H H' → Q x.v H'
theorem len_L_value (vs : List V) (H : Hp) (Q : VK) (E : XK) (h : sp_L_value vs H Q E) : vs.length = 1 := by
  obtain ⟨_, _, rfl, _⟩ := h
  rfl
def sp_kind_of : Sp := fun vs H Q _ => ∃ x : Vl, vs = [x.v] ∧ Q (.str x.kd) H
theorem len_kind_of (vs : List V) (H : Hp) (Q : VK) (E : XK) (h : sp_kind_of vs H Q E) : vs.length = 1 := by
  obtain ⟨_, rfl, _⟩ := h
  rfl
def sp_is_so : Sp := fun vs H Q _ => ∃ x : Vl, vs = [x.v] ∧ ∀ H', Fr [] H H' → Q (.bl x.so) H'
theorem len_is_so (vs : List V) (H : Hp) (Q : VK) (E : XK) (h : sp_is_so vs H Q E) : vs.length = 1 := by
  obtain ⟨_, rfl, _⟩ := h
  rfl
abbrev sp_L_is_so : Sp := sp_is_so
theorem len_L_is_so (vs : List V) (H : Hp) (Q : VK) (E : XK) (h : sp_L_is_so vs H Q E) : vs.length = 1 := len_is_so vs H Q E h
def sp_worked : Sp := fun vs H Q _ => ∃ (s : Sg) (x y : Vl), vs = [.str s.s, x.v, y.v] ∧ x.ok ∧ y.ok ∧ ∀ H', Fr [] H H' → Q (ov (wk s x y)) H'
theorem len_worked (vs : List V) (H : Hp) (Q : VK) (E : XK) (h : sp_worked vs H Q E) : vs.length = 3 := by
  obtain ⟨_, _, _, rfl, _⟩ := h
  rfl
abbrev sp_L_worked : Sp := sp_worked
theorem len_L_worked (vs : List V) (H : Hp) (Q : VK) (E : XK) (h : sp_L_worked vs H Q E) : vs.length = 3 := len_worked vs H Q E h
def sp_of_numbers : Sp := fun vs H Q _ => ∃ (s : Sg) (i j : Int), vs = [.str s.s, .int i, .int j] ∧ s ≠ .same ∧ Q (ov (wk s (.n i) (.n j))) H
theorem len_of_numbers (vs : List V) (H : Hp) (Q : VK) (E : XK) (h : sp_of_numbers vs H Q E) : vs.length = 3 := by
  obtain ⟨_, _, _, rfl, _⟩ := h
  rfl
def sp_of_texts : Sp := fun vs H Q _ => ∃ (s : Sg) (a b : Str), vs = [.str s.s, .str a, .str b] ∧ s ≠ .same ∧ Txt12 a ∧ Txt12 b ∧ ∀ H', Fr [] H H' → Q (ov (wk s (.t a) (.t b))) H'
theorem len_of_texts (vs : List V) (H : Hp) (Q : VK) (E : XK) (h : sp_of_texts vs H Q E) : vs.length = 3 := by
  obtain ⟨_, _, _, rfl, _⟩ := h
  rfl
abbrev sp_L_of_texts : Sp := sp_of_texts
theorem len_L_of_texts (vs : List V) (H : Hp) (Q : VK) (E : XK) (h : sp_L_of_texts vs H Q E) : vs.length = 3 := len_of_texts vs H Q E h
/-- both tell the same data -/
def sp_L_alike (n : Nat) : Sp := fun vs H Q _ => ∃ (x y : V) (d : PyData), vs = [x, y] ∧ Rp H x d ∧ Rp H y d ∧ d.depth < n ∧ Q (.bl true) H
theorem len_L_alike {n : Nat} (vs : List V) (H : Hp) (Q : VK) (E : XK) (h : sp_L_alike n vs H Q E) : vs.length = 2 := by
  obtain ⟨_, _, _, rfl, _⟩ := h
  rfl
theorem no_L_alike (vs : List V) (H : Hp) (Q : VK) (E : XK) : ¬ sp_L_alike 0 vs H Q E := fun ⟨_, _, _, _, _, _, h, _⟩ => absurd h (Nat.not_lt_zero _)
end Hn

namespace Hn
open PySem PySem.Spec PyProof.Rows L2
/-! ### data that never changes -/
mutual
def Tp (H : Hp) : PyData → V → Prop
  | .none, v => v = .non
  | .bool b, v => v = .bl b
  | .int i, v => v = .int i
  | .str x, v => v = .str x
  | .tuple ds, v => ∃ a xs, v = .ref a ∧ H a = some (.tup xs) ∧ TpL H ds xs
  | .list _, _ => False
  | .dict _, _ => False
def TpL (H : Hp) : List PyData → List V → Prop
  | [], xs => xs = []
  | d :: ds, xs => ∃ v r, xs = v :: r ∧ Tp H d v ∧ TpL H ds r
end
def Tups (H H' : Hp) : Prop := ∀ b xs, H b = some (.tup xs) → H' b = some (.tup xs)
mutual
theorem Tp.tups {H H' : Hp} (t : Tups H H') : ∀ {d : PyData} {v : V}, Tp H d v → Tp H' d v
  | .none, _, h => by simpa only [Tp] using h
  | .bool _, _, h => by simpa only [Tp] using h
  | .int _, _, h => by simpa only [Tp] using h
  | .str _, _, h => by simpa only [Tp] using h
  | .tuple ds, v, h => by
    simp only [Tp] at h ⊢
    obtain ⟨a, xs, e, ha, hx⟩ := h
    exact ⟨a, xs, e, t _ _ ha, TpL.tups t hx⟩
  | .list _, _, h => by simp only [Tp] at h
  | .dict _, _, h => by simp only [Tp] at h
theorem TpL.tups {H H' : Hp} (t : Tups H H') : ∀ {ds : List PyData} {xs : List V}, TpL H ds xs → TpL H' ds xs
  | [], _, h => by simpa only [TpL] using h
  | d :: ds, xs, h => by
    simp only [TpL] at h ⊢
    obtain ⟨v, r, e, h1, h2⟩ := h
    exact ⟨v, r, e, Tp.tups t h1, TpL.tups t h2⟩
end
section
variable {H H' : Hp} {S : List Addr} {d : PyData} {v : V} {ds es : List PyData} {xs ys : List V} {p : Addr} {o : HO}
theorem Fr.tu (f : Fr S H H') : Tups H H' := f.tups
theorem Al.tu (a : Al H p o H') : Tups H H' := fun _ _ h => a.k h
theorem Mu.tu (a : Mu H p o H') : Tups H H' := (a.fr (S := [p]) (by simp)).tups
theorem Tups.refl (H : Hp) : Tups H H := fun _ _ h => h
theorem Tups.trans {H1 : Hp} (a : Tups H H1) (b : Tups H1 H') : Tups H H' := fun _ _ h => b _ _ (a _ _ h)
theorem tpl_nil : TpL H [] xs = (xs = []) := by simp only [TpL]
theorem tpl_cons : TpL H (d :: ds) xs = ∃ v r, xs = v :: r ∧ Tp H d v ∧ TpL H ds r := by simp only [TpL]
theorem tp_tup : Tp H (.tuple ds) v = ∃ a xs, v = .ref a ∧ H a = some (.tup xs) ∧ TpL H ds xs := by simp only [Tp]
theorem tp_int {i : Int} : Tp H (.int i) v = (v = .int i) := by simp only [Tp]
theorem tp_str {i : Str} : Tp H (.str i) v = (v = .str i) := by simp only [Tp]
theorem tp_non : Tp H .none v = (v = .non) := by simp only [Tp]
theorem tp_bl {i : Bool} : Tp H (.bool i) v = (v = .bl i) := by simp only [Tp]
theorem Tp.int (i : Int) : Tp H (.int i) (.int i) := by simp only [Tp]
theorem Tp.str (i : Str) : Tp H (.str i) (.str i) := by simp only [Tp]
theorem Tp.tup {a : Addr} (h : H a = some (.tup xs)) (hx : TpL H ds xs) : Tp H (.tuple ds) (.ref a) := by rw [tp_tup]; exact ⟨a, xs, rfl, h, hx⟩
theorem TpL.nil : TpL H [] [] := by simp only [TpL]
theorem TpL.cons (h : Tp H d v) (hr : TpL H ds xs) : TpL H (d :: ds) (v :: xs) := by rw [tpl_cons]; exact ⟨v, xs, rfl, h, hr⟩
theorem TpL.length : ∀ {ds : List PyData} {xs : List V}, TpL H ds xs → xs.length = ds.length
  | [], _, h => by rw [tpl_nil] at h; rw [h]; rfl
  | _ :: _, _, h => by
    rw [tpl_cons] at h
    obtain ⟨v, r, rfl, _, h⟩ := h
    rw [List.length_cons, List.length_cons, h.length]
theorem TpL.append : ∀ {ds : List PyData} {xs : List V}, TpL H ds xs → TpL H es ys → TpL H (ds ++ es) (xs ++ ys)
  | [], _, h, h' => by rw [tpl_nil] at h; rw [h]; exact h'
  | _ :: _, _, h, h' => by
    rw [tpl_cons] at h
    obtain ⟨v, r, rfl, h1, h⟩ := h
    exact .cons h1 (h.append h')
theorem TpL.get : ∀ {ds : List PyData} {xs : List V} {i : Nat} {d : PyData}, TpL H ds xs → ds[i]? = some d → ∃ v, xs[i]? = some v ∧ Tp H d v
  | [], _, _, _, _, e => by simp at e
  | _ :: _, _, 0, _, h, e => by
    rw [tpl_cons] at h
    obtain ⟨v, r, rfl, h1, h⟩ := h
    cases e
    exact ⟨v, rfl, h1⟩
  | _ :: _, _, i + 1, d, h, e => by
    rw [tpl_cons] at h
    obtain ⟨v, r, rfl, h1, h⟩ := h
    exact h.get (i := i) (d := d) e
theorem TpL.get' : ∀ {ds : List PyData} {xs : List V} {i : Nat} {v : V}, TpL H ds xs → xs[i]? = some v → ∃ d, ds[i]? = some d ∧ Tp H d v
  | [], _, _, _, h, e => by rw [tpl_nil] at h; subst h; simp at e
  | _ :: _, _, 0, _, h, e => by
    rw [tpl_cons] at h
    obtain ⟨v, r, rfl, h1, h⟩ := h
    cases e
    exact ⟨_, rfl, h1⟩
  | _ :: _, _, i + 1, d, h, e => by
    rw [tpl_cons] at h
    obtain ⟨v, r, rfl, h1, h⟩ := h
    exact h.get' (i := i) e
theorem TpL.set : ∀ {ds : List PyData} {xs : List V} (i : Nat), TpL H ds xs → Tp H d v → TpL H (ds.set i d) (xs.set i v)
  | [], _, _, h, _ => by rw [tpl_nil] at h; subst h; exact .nil
  | _ :: _, _, 0, h, h' => by
    rw [tpl_cons] at h
    obtain ⟨v, r, rfl, h1, h⟩ := h
    exact .cons h' h
  | _ :: _, _, i + 1, h, h' => by
    rw [tpl_cons] at h
    obtain ⟨v, r, rfl, h1, h⟩ := h
    exact .cons h1 (h.set i h')
theorem TpL.take : ∀ {ds : List PyData} {xs : List V} (i : Nat), TpL H ds xs → TpL H (ds.take i) (xs.take i)
  | [], _, _, h => by rw [tpl_nil] at h; subst h; simp only [List.take_nil]; exact .nil
  | _ :: _, _, 0, h => .nil
  | _ :: _, _, i + 1, h => by
    rw [tpl_cons] at h
    obtain ⟨v, r, rfl, h1, h⟩ := h
    exact .cons h1 (h.take i)
theorem TpL.drop : ∀ {ds : List PyData} {xs : List V} (i : Nat), TpL H ds xs → TpL H (ds.drop i) (xs.drop i)
  | [], _, _, h => by rw [tpl_nil] at h; subst h; simp only [List.drop_nil]; exact .nil
  | _ :: _, _, 0, h => h
  | _ :: _, _, i + 1, h => by
    rw [tpl_cons] at h
    obtain ⟨v, r, rfl, h1, h⟩ := h
    exact h.drop i
theorem TpL.single (h : Tp H d v) : TpL H [d] [v] := .cons h .nil
theorem TpL.snoc (h : TpL H ds xs) (h' : Tp H d v) : TpL H (ds ++ [d]) (xs ++ [v]) := h.append (.single h')
end
mutual
theorem Tp.rp {H : Hp} : ∀ {d : PyData} {v : V}, Tp H d v → Rp H v d
  | .none, _, h => by rw [tp_non] at h; subst h; exact .non
  | .bool _, _, h => by rw [tp_bl] at h; subst h; exact .bl _
  | .int _, _, h => by rw [tp_int] at h; subst h; exact .int _
  | .str _, _, h => by rw [tp_str] at h; subst h; exact .str _
  | .tuple ds, v, h => by
    rw [tp_tup] at h
    obtain ⟨a, xs, rfl, ha, hx⟩ := h
    exact .tup ha (TpL.rp hx)
  | .list _, _, h => by simp only [Tp] at h
  | .dict _, _, h => by simp only [Tp] at h
theorem TpL.rp {H : Hp} : ∀ {ds : List PyData} {xs : List V}, TpL H ds xs → RpAll H xs ds
  | [], _, h => by rw [tpl_nil] at h; subst h; exact .nil
  | d :: ds, xs, h => by
    rw [tpl_cons] at h
    obtain ⟨v, r, rfl, h1, h2⟩ := h
    exact .cons (Tp.rp h1) (TpL.rp h2)
end

/-! ### programs -/
def Nm8 (x : Str) : Prop := ∃ i, i < 8 ∧ x = ⟨#[97 + i]⟩
inductive Ex where
  | num (n : Int) | text (z : Str) | name (x : Str) | op (s : Sg) (a b : Ex)
def Ex.d : Ex → PyData
  | .num n => .tuple [.str (wd 0), .int n]
  | .text z => .tuple [.str (wd 1), .str z]
  | .name x => .tuple [.str (wd 2), .str x]
  | .op s a b => .tuple [.str s.s, a.d, b.d]
def Ex.ok : Ex → Prop
  | .num n => 0 ≤ n ∧ n < 10000
  | .text z => Txt12 z
  | .name x => Nm8 x
  | .op _ a b => a.ok ∧ b.ok
def Ex.dep : Ex → Nat
  | .op _ a b => 1 + max a.dep b.dep
  | _ => 1
inductive Rw where
  | num (n : Int) | text (z : Str) | name (x : Str) | op (s : Sg) | say | set (x : Str) | unless (q : Nat) | go (z : Nat) | top | fin
def Rw.d : Rw → PyData
  | .num n => .tuple [.str (wd 0), .int n]
  | .text z => .tuple [.str (wd 1), .str z]
  | .name x => .tuple [.str (wd 2), .str x]
  | .op s => .tuple [.str s.s]
  | .say => .tuple [.str (wd 7)]
  | .set x => .tuple [.str (wd 8), .str x]
  | .unless q => .tuple [.str (wd 9), .int (q : Nat)]
  | .go z => .tuple [.str (wd 10), .int (z : Nat)]
  | .top => .tuple [.str (wd 11)]
  | .fin => .tuple [.str (wd 12)]
def Ex.code : Ex → List Rw
  | .num n => [.num n]
  | .text z => [.text z]
  | .name x => [.name x]
  | .op s a b => a.code ++ b.code ++ [.op s]
inductive Sm where
  | say (e : Ex) | set (x : Str) (e : Ex) | ite (e : Ex) (s t : List Sm) | whl (e : Ex) (s : List Sm)
mutual
def Sm.d : Sm → PyData
  | .say e => .tuple [.str (wd 7), e.d]
  | .set x e => .tuple [.str (wd 8), .str x, e.d]
  | .ite e s t => .tuple [.str (wd 14), e.d, .tuple [.str (wd 13), .tuple (dL s)], .tuple [.str (wd 13), .tuple (dL t)]]
  | .whl e s => .tuple [.str (wd 15), e.d, .tuple [.str (wd 13), .tuple (dL s)]]
def dL : List Sm → List PyData
  | [] => []
  | a :: r => a.d :: dL r
end
def rowD (l : List Sm) : PyData := .tuple [.str (wd 13), .tuple (dL l)]
mutual
/-- its expressions are at most m deep -/
def Sm.ok (m : Nat) : Sm → Prop
  | .say e => e.ok ∧ e.dep ≤ m
  | .set x e => Nm8 x ∧ e.ok ∧ e.dep ≤ m
  | .ite e s t => (e.ok ∧ e.dep ≤ m) ∧ okL m s ∧ okL m t
  | .whl e s => (e.ok ∧ e.dep ≤ m) ∧ okL m s
def okL (m : Nat) : List Sm → Prop
  | [] => True
  | a :: r => a.ok m ∧ okL m r
end
mutual
/-- how many calls deep a walk goes -/
def Sm.dp : Sm → Nat
  | .say _ => 1
  | .set _ _ => 1
  | .ite _ s t => 1 + max (dpL s) (dpL t)
  | .whl _ s => 1 + dpL s
def dpL : List Sm → Nat
  | [] => 1
  | a :: r => max (1 + a.dp) (dpL r)
end
mutual
/-- how many statements -/
def Sm.cnt : Sm → Nat
  | .say _ => 1
  | .set _ _ => 1
  | .ite _ s t => 1 + cntL s + cntL t
  | .whl _ s => 1 + cntL s
def cntL : List Sm → Nat
  | [] => 0
  | a :: r => a.cnt + cntL r
end
mutual
def Sm.code : Sm → Nat → List Rw
  | .say e, _ => e.code ++ [.say]
  | .set x e, _ => e.code ++ [.set x]
  | .ite e s t, b => e.code ++ [.unless (b + e.code.length + (codeL s (b + e.code.length + 1)).length + 2)] ++ codeL s (b + e.code.length + 1) ++
      [.go (b + e.code.length + (codeL s (b + e.code.length + 1)).length + 2 + (codeL t (b + e.code.length + (codeL s (b + e.code.length + 1)).length + 2)).length)] ++
      codeL t (b + e.code.length + (codeL s (b + e.code.length + 1)).length + 2)
  | .whl e s, b => [.top] ++ e.code ++ [.unless (b + e.code.length + (codeL s (b + e.code.length + 2)).length + 3)] ++ codeL s (b + e.code.length + 2) ++ [.go b]
def codeL : List Sm → Nat → List Rw
  | [], _ => []
  | a :: r, b => a.code b ++ codeL r (b + (a.code b).length)
end
/-- a statement, or a row of them -/
inductive Un where
  | row (l : List Sm) | st (s : Sm)
def Un.d : Un → PyData
  | .row l => rowD l
  | .st s => s.d
def Un.dp : Un → Nat
  | .row l => dpL l
  | .st s => s.dp
def Un.ok (m : Nat) : Un → Prop
  | .row l => okL m l
  | .st s => s.ok m
def Un.cnt : Un → Nat
  | .row l => cntL l
  | .st s => s.cnt
def Un.code : Un → Nat → List Rw
  | .row l, b => codeL l b
  | .st s, b => s.code b
/-! sizes -/
theorem Ex.pos (e : Ex) : 0 < e.code.length := by
  cases e <;> simp only [Ex.code, List.length_append, List.length_cons, List.length_nil] <;> omega
theorem Ex.len2 : ∀ e : Ex, e.code.length + 1 ≤ 2 ^ e.dep
  | .num _ => by simp [Ex.code, Ex.dep]
  | .text _ => by simp [Ex.code, Ex.dep]
  | .name _ => by simp [Ex.code, Ex.dep]
  | .op s a b => by
    have h1 := Ex.len2 a
    have h2 := Ex.len2 b
    have h3 : 2 ^ a.dep ≤ 2 ^ max a.dep b.dep := Nat.pow_le_pow_right (by decide) (Nat.le_max_left ..)
    have h4 : 2 ^ b.dep ≤ 2 ^ max a.dep b.dep := Nat.pow_le_pow_right (by decide) (Nat.le_max_right ..)
    have h5 : 2 ^ (1 + max a.dep b.dep) = 2 * 2 ^ max a.dep b.dep := by rw [Nat.add_comm, Nat.pow_succ]; omega
    simp only [Ex.code, Ex.dep, List.length_append, List.length_cons, List.length_nil]
    omega
theorem Ex.lenM {e : Ex} {m : Nat} (h : e.dep ≤ m) : e.code.length ≤ 2 ^ m := by
  have h1 := e.len2
  have h2 : 2 ^ e.dep ≤ 2 ^ m := Nat.pow_le_pow_right (by decide) h
  omega
mutual
theorem Sm.len_le {m : Nat} : ∀ (s : Sm) (b : Nat), s.ok m → (s.code b).length ≤ (2 ^ m + 3) * s.cnt
  | .say e, b, h => by
    have := Ex.lenM h.2
    simp only [Sm.code, Sm.cnt, List.length_append, List.length_cons, List.length_nil]
    omega
  | .set x e, b, h => by
    have := Ex.lenM h.2.2
    simp only [Sm.code, Sm.cnt, List.length_append, List.length_cons, List.length_nil]
    omega
  | .ite e s t, b, h => by
    have h0 := Ex.lenM h.1.2
    have h1 := len_leL s (b + e.code.length + 1) h.2.1
    have h2 := len_leL t (b + e.code.length + (codeL s (b + e.code.length + 1)).length + 2) h.2.2
    simp only [Sm.code, Sm.cnt, List.length_append, List.length_cons, List.length_nil]
    rw [Nat.mul_add, Nat.mul_add, Nat.mul_one]
    omega
  | .whl e s, b, h => by
    have h0 := Ex.lenM h.1.2
    have h1 := len_leL s (b + e.code.length + 2) h.2
    simp only [Sm.code, Sm.cnt, List.length_append, List.length_cons, List.length_nil]
    rw [Nat.mul_add, Nat.mul_one]
    omega
theorem len_leL {m : Nat} : ∀ (l : List Sm) (b : Nat), okL m l → (codeL l b).length ≤ (2 ^ m + 3) * cntL l
  | [], b, _ => by simp [codeL, cntL]
  | a :: r, b, h => by
    have h1 := Sm.len_le a b h.1
    have h2 := len_leL r (b + (a.code b).length) h.2
    simp only [codeL, cntL, List.length_append]
    rw [Nat.mul_add]
    omega
end
theorem Un.len_le {m : Nat} (o : Un) (b : Nat) (h : o.ok m) : (o.code b).length ≤ (2 ^ m + 3) * o.cnt := by
  cases o with
  | row l => exact len_leL l b h
  | st s => exact s.len_le b h
theorem dL_map : ∀ l : List Sm, dL l = l.map Sm.d
  | [] => by simp [dL]
  | a :: r => by simp [dL, dL_map r]
theorem codeL_append : ∀ (l k : List Sm) (b : Nat), codeL (l ++ k) b = codeL l b ++ codeL k (b + (codeL l b).length)
  | [], k, b => by simp [codeL]
  | a :: r, k, b => by simp [codeL, codeL_append r k, Nat.add_assoc]
theorem okL_mem {m : Nat} : ∀ {l : List Sm} {s : Sm}, okL m l → s ∈ l → s.ok m
  | _ :: _, _, h, .head _ => h.1
  | _ :: _, _, h, .tail _ h' => okL_mem h.2 h'
theorem dpL_mem : ∀ {l : List Sm} {s : Sm}, s ∈ l → s.dp < dpL l
  | a :: r, _, .head _ => by simp only [dpL]; omega
  | a :: r, _, .tail _ h' => by have := dpL_mem h'; simp only [dpL]; omega
theorem cntL_append : ∀ (l k : List Sm), cntL (l ++ k) = cntL l + cntL k
  | [], k => by simp [cntL]
  | a :: r, k => by simp [cntL, cntL_append r k]; omega
theorem cntL_take : ∀ (l : List Sm) (i : Nat), cntL (l.take i) ≤ cntL l
  | [], i => by simp
  | a :: r, 0 => by simp [cntL]
  | a :: r, i + 1 => by have := cntL_take r i; simp only [List.take_succ_cons, cntL]; omega
theorem okL_take {m : Nat} : ∀ (l : List Sm) (i : Nat), okL m l → okL m (l.take i)
  | [], i, _ => by simp [okL]
  | a :: r, 0, _ => by simp [okL]
  | a :: r, i + 1, h => ⟨h.1, okL_take r i h.2⟩
theorem okL_append {m : Nat} : ∀ {l k : List Sm}, okL m l → okL m k → okL m (l ++ k)
  | [], _, _, h => h
  | _ :: _, _, h, h' => ⟨h.1, okL_append h.2 h'⟩
end Hn

namespace Hn
open PySem PySem.Spec PyProof.Rows L2
/-- _law_take from 3 -/
def t_L_take_3 (K : PySem.W.Frag) : TS :=
  (tSeq (tIfS (tTest (tOp (rInT false) (tOp rXL (tOp rXL (tVar 0) (tC (.int 0))) (tC (.int 0))) (xTup (tCons (tC (.int 0)) (tCons (tUn (rU fun i => .int (-i)) (tC (.int 1))) tNil))))) (tDrop (tPopAt (tOp rXL (tVar 0) (tC (.int 0))) (tC (.int 0)))) tNext)
    (tRet (tOp (rI (fun _ j => 0 < j) fun i j => .int (i % j)) (tVar 2) (tVar 1))))

/-- _law_take from 2 -/
def t_L_take_2 (K : PySem.W.Frag) : TS :=
  tSeq (tAsg (tOp (rI CDiv fun i j => .int (i / j)) (tVar 2) (tVar 1)) (gSub (tOp rXL (tVar 0) (tC (.int 0))) (tC (.int 0)) rStL)) (t_L_take_3 K)

/-- _law_take from 1 -/
def t_L_take_1 (K : PySem.W.Frag) : TS :=
  tSeq (tAsg (tOp rXL (tOp rXL (tVar 0) (tC (.int 0))) (tC (.int 0))) (gName 2)) (t_L_take_2 K)

/-- _law_take -/
def t_L_take (K : PySem.W.Frag) : TS :=
  tSeq (tIfS (tTest (tOp rEqE (tOp rXL (tVar 0) (tC (.int 0))) (xLst tNil))) (tSeq (tAsg (tOp (rI (fun _ j => 0 < j) fun i j => .int (i % j)) (tOp (rI CMul fun i j => .int (i * j)) (tOp rXL (tVar 0) (tC (.int 1))) (tC (.int 48271))) (tC (.int 2147483647))) (gSub (tVar 0) (tC (.int 1)) rStL))
    (tRet (tOp (rI (fun _ j => 0 < j) fun i j => .int (i % j)) (tOp (rI CDiv fun i j => .int (i / j)) (tOp rXL (tVar 0) (tC (.int 1))) (tC (.int 7))) (tVar 1)))) tNext) (t_L_take_1 K)

theorem map_int_head {ns : List Int} (h : ns.isEmpty = false) : ∃ n r, ns = n :: r := by
  cases ns with
  | nil => cases h
  | cons n r => exact ⟨n, r, rfl⟩
theorem rd_L_take {K : PySem.W.Frag} {vs : List V} {H : Hp} {Q : VK} {E : XK} (h : sp_L_take vs H Q E) : t_L_take K { nx := fun _ H' => Q .non H', rt := Q } (start ["_", "_", "_"] vs) H := by
  obtain ⟨b, l, m, rfl, ⟨ne, ns, s, hb, hl, s0, s1⟩, m0, m1, k⟩ := h
  show t_L_take K _ [some (.ref b), some (.int m), none] H
  unfold t_L_take
  refine st_seq ?_
  simp only [tIfS, tRet, tRetN, tAsg, gName, gSub, gCons, gNil, gTup, tDrop, tNext, tVar, tC, tOp, tUn, tTest, tB, tAnd, tOr, tNot, tAndV, tOrV, tNotV, tIf, tCons, tNil, xLst, xTup, xDic, tCB, tCall, tChain, tSl, tPart, tNoPart, rI, rI0, rU, rEq, rNe, scal, rXL, rXT, rXQ, rLenL, rLenT, rLenS, rLenQ, rInt1, rTupL, rLstL, rIsN, rNotN, rInT, rAddS, rLtS, rInS1, rNinS1, rIxS, rSlS, rStL, rCt, rSL, tApp, tPopAt, tPopL, tJoinL, tIndex, ixN0, ixN1, ixN2, ixN3, atI0, atI1, atI2, atI3, eqV_str, eqV_int, eqV_is, eqV_si, inV_nil, inV_cons, flatV, List.all_cons, List.all_nil, wd_eq, wd_ne0, wd_ne0', List.getElem?_cons_zero, List.getElem?_cons_succ, List.set_cons_zero, List.set_cons_succ, List.cons_append, List.nil_append, List.append_nil, Nat.reduceAdd, Nat.reduceLT, Option.some.injEq, V.int.injEq, V.str.injEq, V.bl.injEq, V.ref.injEq, HO.lst.injEq, HO.tup.injEq, HO.dK.injEq, List.cons.injEq, exists_eq_left, exists_eq_left', exists_eq_right, exists_eq_right', exists_and_left, exists_and_right, exists_const, exists_eq, exists_eq', and_assoc, true_and, and_true, false_and, and_false, true_or, or_true, false_or, or_false, reduceCtorEq, not_true_eq_false, not_false_eq_true, decide_true, decide_false, decide_eq_true_eq, decide_not, Bool.not_true, Bool.not_false, Bool.false_eq_true, Bool.true_and, Bool.and_true, Bool.false_and, Bool.and_false, Bool.true_or, Bool.or_true, Bool.false_or, Bool.or_false, if_true, if_false, ite_true, ite_false, Nat.reduceEqDiff, exists_false, eq_self, upd_same, Bool.not_eq_true', decide_eq_false_iff_not, hb]
  refine ⟨by decide, fun p H1 A => ⟨l, p, ns, rfl, rfl, A.k hl, A.at_, _, rfl, ?_⟩⟩
  cases e : ns.isEmpty with
  | true =>
    refine iteT (st_seq ?_)
    simp only [tIfS, tRet, tRetN, tAsg, gName, gSub, gCons, gNil, gTup, tDrop, tNext, tVar, tC, tOp, tUn, tTest, tB, tAnd, tOr, tNot, tAndV, tOrV, tNotV, tIf, tCons, tNil, xLst, xTup, xDic, tCB, tCall, tChain, tSl, tPart, tNoPart, rI, rI0, rU, rEq, rNe, scal, rXL, rXT, rXQ, rLenL, rLenT, rLenS, rLenQ, rInt1, rTupL, rLstL, rIsN, rNotN, rInT, rAddS, rLtS, rInS1, rNinS1, rIxS, rSlS, rStL, rCt, rSL, tApp, tPopAt, tPopL, tJoinL, tIndex, ixN0, ixN1, ixN2, ixN3, atI0, atI1, atI2, atI3, eqV_str, eqV_int, eqV_is, eqV_si, inV_nil, inV_cons, flatV, List.all_cons, List.all_nil, wd_eq, wd_ne0, wd_ne0', List.getElem?_cons_zero, List.getElem?_cons_succ, List.set_cons_zero, List.set_cons_succ, List.cons_append, List.nil_append, List.append_nil, Nat.reduceAdd, Nat.reduceLT, Option.some.injEq, V.int.injEq, V.str.injEq, V.bl.injEq, V.ref.injEq, HO.lst.injEq, HO.tup.injEq, HO.dK.injEq, List.cons.injEq, exists_eq_left, exists_eq_left', exists_eq_right, exists_eq_right', exists_and_left, exists_and_right, exists_const, exists_eq, exists_eq', and_assoc, true_and, and_true, false_and, and_false, true_or, or_true, false_or, or_false, reduceCtorEq, not_true_eq_false, not_false_eq_true, decide_true, decide_false, decide_eq_true_eq, decide_not, Bool.not_true, Bool.not_false, Bool.false_eq_true, Bool.true_and, Bool.and_true, Bool.false_and, Bool.and_false, Bool.true_or, Bool.or_true, Bool.false_or, Bool.or_false, if_true, if_false, ite_true, ite_false, Nat.reduceEqDiff, exists_false, eq_self, upd_same, Bool.not_eq_true', decide_eq_false_iff_not, A.k hb]
    refine ⟨.inl ⟨by omega, by omega⟩, by decide, ?_⟩
    intro H2 M
    simp only [tIfS, tRet, tRetN, tAsg, gName, gSub, gCons, gNil, gTup, tDrop, tNext, tVar, tC, tOp, tUn, tTest, tB, tAnd, tOr, tNot, tAndV, tOrV, tNotV, tIf, tCons, tNil, xLst, xTup, xDic, tCB, tCall, tChain, tSl, tPart, tNoPart, rI, rI0, rU, rEq, rNe, scal, rXL, rXT, rXQ, rLenL, rLenT, rLenS, rLenQ, rInt1, rTupL, rLstL, rIsN, rNotN, rInT, rAddS, rLtS, rInS1, rNinS1, rIxS, rSlS, rStL, rCt, rSL, tApp, tPopAt, tPopL, tJoinL, tIndex, ixN0, ixN1, ixN2, ixN3, atI0, atI1, atI2, atI3, eqV_str, eqV_int, eqV_is, eqV_si, inV_nil, inV_cons, flatV, List.all_cons, List.all_nil, wd_eq, wd_ne0, wd_ne0', List.getElem?_cons_zero, List.getElem?_cons_succ, List.set_cons_zero, List.set_cons_succ, List.cons_append, List.nil_append, List.append_nil, Nat.reduceAdd, Nat.reduceLT, Option.some.injEq, V.int.injEq, V.str.injEq, V.bl.injEq, V.ref.injEq, HO.lst.injEq, HO.tup.injEq, HO.dK.injEq, List.cons.injEq, exists_eq_left, exists_eq_left', exists_eq_right, exists_eq_right', exists_and_left, exists_and_right, exists_const, exists_eq, exists_eq', and_assoc, true_and, and_true, false_and, and_false, true_or, or_true, false_or, or_false, reduceCtorEq, not_true_eq_false, not_false_eq_true, decide_true, decide_false, decide_eq_true_eq, decide_not, Bool.not_true, Bool.not_false, Bool.false_eq_true, Bool.true_and, Bool.and_true, Bool.false_and, Bool.and_false, Bool.true_or, Bool.or_true, Bool.false_or, Bool.or_false, if_true, if_false, ite_true, ite_false, Nat.reduceEqDiff, exists_false, eq_self, upd_same, Bool.not_eq_true', decide_eq_false_iff_not, M.at_, List.set]
    have g0 : 0 ≤ s * 48271 % 2147483647 := Int.emod_nonneg _ (by decide)
    have g1 : s * 48271 % 2147483647 < 2147483647 := Int.emod_lt_of_pos _ (by decide)
    refine ⟨⟨by decide, by decide⟩, m0, ?_⟩
    exact k _ _ (Int.emod_nonneg _ (by omega)) (Int.emod_lt_of_pos _ m0) ⟨ne, ns, _, M.at_, M.k (A.k hl) ne.symm, g0, g1⟩ ((A.fr).mu M (by simp))
  | false =>
    refine iteF (st_seq ?_)
    obtain ⟨n, r, rfl⟩ := map_int_head e
    simp only [tIfS, tRet, tRetN, tAsg, gName, gSub, gCons, gNil, gTup, tDrop, tNext, tVar, tC, tOp, tUn, tTest, tB, tAnd, tOr, tNot, tAndV, tOrV, tNotV, tIf, tCons, tNil, xLst, xTup, xDic, tCB, tCall, tChain, tSl, tPart, tNoPart, rI, rI0, rU, rEq, rNe, scal, rXL, rXT, rXQ, rLenL, rLenT, rLenS, rLenQ, rInt1, rTupL, rLstL, rIsN, rNotN, rInT, rAddS, rLtS, rInS1, rNinS1, rIxS, rSlS, rStL, rCt, rSL, tApp, tPopAt, tPopL, tJoinL, tIndex, ixN0, ixN1, ixN2, ixN3, atI0, atI1, atI2, atI3, eqV_str, eqV_int, eqV_is, eqV_si, inV_nil, inV_cons, flatV, List.all_cons, List.all_nil, wd_eq, wd_ne0, wd_ne0', List.getElem?_cons_zero, List.getElem?_cons_succ, List.set_cons_zero, List.set_cons_succ, List.cons_append, List.nil_append, List.append_nil, Nat.reduceAdd, Nat.reduceLT, Option.some.injEq, V.int.injEq, V.str.injEq, V.bl.injEq, V.ref.injEq, HO.lst.injEq, HO.tup.injEq, HO.dK.injEq, List.cons.injEq, exists_eq_left, exists_eq_left', exists_eq_right, exists_eq_right', exists_and_left, exists_and_right, exists_const, exists_eq, exists_eq', and_assoc, true_and, and_true, false_and, and_false, true_or, or_true, false_or, or_false, reduceCtorEq, not_true_eq_false, not_false_eq_true, decide_true, decide_false, decide_eq_true_eq, decide_not, Bool.not_true, Bool.not_false, Bool.false_eq_true, Bool.true_and, Bool.and_true, Bool.false_and, Bool.and_false, Bool.true_or, Bool.or_true, Bool.false_or, Bool.or_false, if_true, if_false, ite_true, ite_false, Nat.reduceEqDiff, exists_false, eq_self, upd_same, Bool.not_eq_true', decide_eq_false_iff_not, A.k hb, A.k hl, List.map_cons]
    refine st_seq ?_
    simp only [tIfS, tRet, tRetN, tAsg, gName, gSub, gCons, gNil, gTup, tDrop, tNext, tVar, tC, tOp, tUn, tTest, tB, tAnd, tOr, tNot, tAndV, tOrV, tNotV, tIf, tCons, tNil, xLst, xTup, xDic, tCB, tCall, tChain, tSl, tPart, tNoPart, rI, rI0, rU, rEq, rNe, scal, rXL, rXT, rXQ, rLenL, rLenT, rLenS, rLenQ, rInt1, rTupL, rLstL, rIsN, rNotN, rInT, rAddS, rLtS, rInS1, rNinS1, rIxS, rSlS, rStL, rCt, rSL, tApp, tPopAt, tPopL, tJoinL, tIndex, ixN0, ixN1, ixN2, ixN3, atI0, atI1, atI2, atI3, eqV_str, eqV_int, eqV_is, eqV_si, inV_nil, inV_cons, flatV, List.all_cons, List.all_nil, wd_eq, wd_ne0, wd_ne0', List.getElem?_cons_zero, List.getElem?_cons_succ, List.set_cons_zero, List.set_cons_succ, List.cons_append, List.nil_append, List.append_nil, Nat.reduceAdd, Nat.reduceLT, Option.some.injEq, V.int.injEq, V.str.injEq, V.bl.injEq, V.ref.injEq, HO.lst.injEq, HO.tup.injEq, HO.dK.injEq, List.cons.injEq, exists_eq_left, exists_eq_left', exists_eq_right, exists_eq_right', exists_and_left, exists_and_right, exists_const, exists_eq, exists_eq', and_assoc, true_and, and_true, false_and, and_false, true_or, or_true, false_or, or_false, reduceCtorEq, not_true_eq_false, not_false_eq_true, decide_true, decide_false, decide_eq_true_eq, decide_not, Bool.not_true, Bool.not_false, Bool.false_eq_true, Bool.true_and, Bool.and_true, Bool.false_and, Bool.and_false, Bool.true_or, Bool.or_true, Bool.false_or, Bool.or_false, if_true, if_false, ite_true, ite_false, Nat.reduceEqDiff, exists_false, eq_self, upd_same, Bool.not_eq_true', decide_eq_false_iff_not, A.k hb, A.k hl, List.map_cons]
    refine ⟨⟨m0, m1⟩, fun H2 M => st_seq ?_⟩
    have hb2 := M.k (A.k hb) ne
    have hl2 : H2 l = some (.lst (.int (n / m) :: r.map V.int)) := M.at_
    have f2 : Fr [b, l] H H2 := A.fr.mu M (by simp)
    simp only [tIfS, tRet, tRetN, tAsg, gName, gSub, gCons, gNil, gTup, tDrop, tNext, tVar, tC, tOp, tUn, tTest, tB, tAnd, tOr, tNot, tAndV, tOrV, tNotV, tIf, tCons, tNil, xLst, xTup, xDic, tCB, tCall, tChain, tSl, tPart, tNoPart, rI, rI0, rU, rEq, rNe, scal, rXL, rXT, rXQ, rLenL, rLenT, rLenS, rLenQ, rInt1, rTupL, rLstL, rIsN, rNotN, rInT, rAddS, rLtS, rInS1, rNinS1, rIxS, rSlS, rStL, rCt, rSL, tApp, tPopAt, tPopL, tJoinL, tIndex, ixN0, ixN1, ixN2, ixN3, atI0, atI1, atI2, atI3, eqV_str, eqV_int, eqV_is, eqV_si, inV_nil, inV_cons, flatV, List.all_cons, List.all_nil, wd_eq, wd_ne0, wd_ne0', List.getElem?_cons_zero, List.getElem?_cons_succ, List.set_cons_zero, List.set_cons_succ, List.cons_append, List.nil_append, List.append_nil, Nat.reduceAdd, Nat.reduceLT, Option.some.injEq, V.int.injEq, V.str.injEq, V.bl.injEq, V.ref.injEq, HO.lst.injEq, HO.tup.injEq, HO.dK.injEq, List.cons.injEq, exists_eq_left, exists_eq_left', exists_eq_right, exists_eq_right', exists_and_left, exists_and_right, exists_const, exists_eq, exists_eq', and_assoc, true_and, and_true, false_and, and_false, true_or, or_true, false_or, or_false, reduceCtorEq, not_true_eq_false, not_false_eq_true, decide_true, decide_false, decide_eq_true_eq, decide_not, Bool.not_true, Bool.not_false, Bool.false_eq_true, Bool.true_and, Bool.and_true, Bool.false_and, Bool.and_false, Bool.true_or, Bool.or_true, Bool.false_or, Bool.or_false, if_true, if_false, ite_true, ite_false, Nat.reduceEqDiff, exists_false, eq_self, upd_same, Bool.not_eq_true', decide_eq_false_iff_not, hb2, hl2]
    refine ⟨by decide, fun q H3 A3 => ?_⟩
    simp only [tIfS, tRet, tRetN, tAsg, gName, gSub, gCons, gNil, gTup, tDrop, tNext, tVar, tC, tOp, tUn, tTest, tB, tAnd, tOr, tNot, tAndV, tOrV, tNotV, tIf, tCons, tNil, xLst, xTup, xDic, tCB, tCall, tChain, tSl, tPart, tNoPart, rI, rI0, rU, rEq, rNe, scal, rXL, rXT, rXQ, rLenL, rLenT, rLenS, rLenQ, rInt1, rTupL, rLstL, rIsN, rNotN, rInT, rAddS, rLtS, rInS1, rNinS1, rIxS, rSlS, rStL, rCt, rSL, tApp, tPopAt, tPopL, tJoinL, tIndex, ixN0, ixN1, ixN2, ixN3, atI0, atI1, atI2, atI3, eqV_str, eqV_int, eqV_is, eqV_si, inV_nil, inV_cons, flatV, List.all_cons, List.all_nil, wd_eq, wd_ne0, wd_ne0', List.getElem?_cons_zero, List.getElem?_cons_succ, List.set_cons_zero, List.set_cons_succ, List.cons_append, List.nil_append, List.append_nil, Nat.reduceAdd, Nat.reduceLT, Option.some.injEq, V.int.injEq, V.str.injEq, V.bl.injEq, V.ref.injEq, HO.lst.injEq, HO.tup.injEq, HO.dK.injEq, List.cons.injEq, exists_eq_left, exists_eq_left', exists_eq_right, exists_eq_right', exists_and_left, exists_and_right, exists_const, exists_eq, exists_eq', and_assoc, true_and, and_true, false_and, and_false, true_or, or_true, false_or, or_false, reduceCtorEq, not_true_eq_false, not_false_eq_true, decide_true, decide_false, decide_eq_true_eq, decide_not, Bool.not_true, Bool.not_false, Bool.false_eq_true, Bool.true_and, Bool.and_true, Bool.false_and, Bool.and_false, Bool.true_or, Bool.or_true, Bool.false_or, Bool.or_false, if_true, if_false, ite_true, ite_false, Nat.reduceEqDiff, exists_false, eq_self, upd_same, Bool.not_eq_true', decide_eq_false_iff_not, A3.at_]
    split
    · simp only [tIfS, tRet, tRetN, tAsg, gName, gSub, gCons, gNil, gTup, tDrop, tNext, tVar, tC, tOp, tUn, tTest, tB, tAnd, tOr, tNot, tAndV, tOrV, tNotV, tIf, tCons, tNil, xLst, xTup, xDic, tCB, tCall, tChain, tSl, tPart, tNoPart, rI, rI0, rU, rEq, rNe, scal, rXL, rXT, rXQ, rLenL, rLenT, rLenS, rLenQ, rInt1, rTupL, rLstL, rIsN, rNotN, rInT, rAddS, rLtS, rInS1, rNinS1, rIxS, rSlS, rStL, rCt, rSL, tApp, tPopAt, tPopL, tJoinL, tIndex, ixN0, ixN1, ixN2, ixN3, atI0, atI1, atI2, atI3, eqV_str, eqV_int, eqV_is, eqV_si, inV_nil, inV_cons, flatV, List.all_cons, List.all_nil, wd_eq, wd_ne0, wd_ne0', List.getElem?_cons_zero, List.getElem?_cons_succ, List.set_cons_zero, List.set_cons_succ, List.cons_append, List.nil_append, List.append_nil, Nat.reduceAdd, Nat.reduceLT, Option.some.injEq, V.int.injEq, V.str.injEq, V.bl.injEq, V.ref.injEq, HO.lst.injEq, HO.tup.injEq, HO.dK.injEq, List.cons.injEq, exists_eq_left, exists_eq_left', exists_eq_right, exists_eq_right', exists_and_left, exists_and_right, exists_const, exists_eq, exists_eq', and_assoc, true_and, and_true, false_and, and_false, true_or, or_true, false_or, or_false, reduceCtorEq, not_true_eq_false, not_false_eq_true, decide_true, decide_false, decide_eq_true_eq, decide_not, Bool.not_true, Bool.not_false, Bool.false_eq_true, Bool.true_and, Bool.and_true, Bool.false_and, Bool.and_false, Bool.true_or, Bool.or_true, Bool.false_or, Bool.or_false, if_true, if_false, ite_true, ite_false, Nat.reduceEqDiff, exists_false, eq_self, upd_same, Bool.not_eq_true', decide_eq_false_iff_not, A3.k hb2, A3.k hl2]
      intro H4 M4
      exact ⟨m0, k _ _ (Int.emod_nonneg _ (by omega)) (Int.emod_lt_of_pos _ m0) ⟨ne, r, s, M4.k (A3.k hb2) ne, M4.at_, s0, s1⟩ ((f2.al A3).mu M4 (by simp))⟩
    · exact ⟨m0, k _ _ (Int.emod_nonneg _ (by omega)) (Int.emod_lt_of_pos _ m0) ⟨ne, (n / m) :: r, s, A3.k hb2, A3.k hl2, s0, s1⟩ (f2.al A3)⟩
end Hn

namespace Hn
open PySem PySem.Spec PyProof.Rows L2
/-- kind_of -/
def t_kind_of (K : PySem.W.Frag) : TS :=
  (tSeq (tIfS (tB (tCB (rIs "str") (tCons (tVar 0) (tCons (tC (.ty "str")) tNil)))) (tRet (tC (.str (wd 24)))) tNext)
    (tRet (tC (.str (wd 23)))))

/-- is_so -/
def t_is_so (K : PySem.W.Frag) : TS :=
  (tRet (tAndV (tOp rNe (tVar 0) (tC (.int 0))) (tOp rNe (tVar 0) (tC (.str ("" : Str))))))

/-- of_numbers from 1 -/
def t_of_numbers_1 (K : PySem.W.Frag) : TS :=
  (tSeq (tIfS (tTest (tOp rEq (tVar 0) (tC (.str (wd 4))))) (tRet (tOp (rI (fun _ j => 0 < j) fun i j => .int (i % j)) (tOp (rI0 fun i j => .int (i - j)) (tVar 1) (tVar 2)) (tC (.int 10007)))) tNext)
    (tRet (tCB rInt1 (tCons (tOp (rI0 fun i j => .bl (decide (i < j))) (tVar 1) (tVar 2)) tNil))))

/-- of_numbers -/
def t_of_numbers (K : PySem.W.Frag) : TS :=
  tSeq (tIfS (tTest (tOp rEq (tVar 0) (tC (.str (wd 3))))) (tRet (tOp (rI (fun _ j => 0 < j) fun i j => .int (i % j)) (tOp (rI0 fun i j => .int (i + j)) (tVar 1) (tVar 2)) (tC (.int 10007)))) tNext) (t_of_numbers_1 K)

/-- worked from 2 -/
def t_worked_2 (K : PySem.W.Frag) : TS :=
  (tSeq (tIfS (tTest (tOp rEq (tCall sp_kind_of [] E0 (tCons (tVar 1) tNil)) (tC (.str (wd 23))))) (tRet (tCall sp_of_numbers [] E0 (tCons (tVar 0) (tCons (tVar 1) (tCons (tVar 2) tNil))))) tNext)
    (tRet (tCall sp_of_texts [] E0 (tCons (tVar 0) (tCons (tVar 1) (tCons (tVar 2) tNil))))))

/-- worked from 1 -/
def t_worked_1 (K : PySem.W.Frag) : TS :=
  tSeq (tIfS (tTest (tOp rNe (tCall sp_kind_of [] E0 (tCons (tVar 1) tNil)) (tCall sp_kind_of [] E0 (tCons (tVar 2) tNil)))) (tRet (tC .non)) tNext) (t_worked_2 K)

/-- worked -/
def t_worked (K : PySem.W.Frag) : TS :=
  tSeq (tIfS (tTest (tOp rEq (tVar 0) (tC (.str (wd 6))))) (tRet (tCB rInt1 (tCons (tAndV (tOp rEq (tCall sp_kind_of [] E0 (tCons (tVar 1) tNil)) (tCall sp_kind_of [] E0 (tCons (tVar 2) tNil))) (tOp rEq (tVar 1) (tVar 2))) tNil))) tNext) (t_worked_1 K)

/-- _law_worked from 3 -/
def t_L_worked_3 (K : PySem.W.Frag) : TS :=
  (tSeq (tIfS (tB (tCB (rIs "str") (tCons (tVar 1) (tCons (tC (.ty "str")) tNil)))) (tRet (tCall sp_L_of_texts [] E0 (tCons (tVar 0) (tCons (tVar 1) (tCons (tVar 2) tNil))))) tNext)
    (tRet (tOp rXL (xLst (tCons (tOp (rI (fun _ j => 0 < j) fun i j => .int (i % j)) (tOp (rI0 fun i j => .int (i + j)) (tVar 1) (tVar 2)) (tC (.int 10007))) (tCons (tOp (rI (fun _ j => 0 < j) fun i j => .int (i % j)) (tOp (rI0 fun i j => .int (i - j)) (tVar 1) (tVar 2)) (tC (.int 10007))) (tCons (tCB rInt1 (tCons (tOp (rI0 fun i j => .bl (decide (i < j))) (tVar 1) (tVar 2)) tNil)) tNil)))) (tIndex (xLst (tCons (tC (.str (wd 3))) (tCons (tC (.str (wd 4))) (tCons (tC (.str (wd 5))) tNil)))) (tVar 0)))))

/-- _law_worked from 2 -/
def t_L_worked_2 (K : PySem.W.Frag) : TS :=
  tSeq (tIfS (tNot (tB (tVar 3))) (tRet (tC .non)) tNext) (t_L_worked_3 K)

/-- _law_worked from 1 -/
def t_L_worked_1 (K : PySem.W.Frag) : TS :=
  tSeq (tIfS (tTest (tOp rEq (tVar 0) (tC (.str (wd 6))))) (tRet (tCB rInt1 (tCons (tAndV (tVar 3) (tOp rEq (tVar 1) (tVar 2))) tNil))) tNext) (t_L_worked_2 K)

/-- _law_worked -/
def t_L_worked (K : PySem.W.Frag) : TS :=
  tSeq (tAsg (tOp rEq (tCB (rIs "str") (tCons (tVar 1) (tCons (tC (.ty "str")) tNil))) (tCB (rIs "str") (tCons (tVar 2) (tCons (tC (.ty "str")) tNil)))) (gName 3)) (t_L_worked_1 K)

/-- _law_is_so -/
def t_L_is_so (K : PySem.W.Frag) : TS :=
  (tRet (tOp (rInT true) (tVar 0) (xTup (tCons (tC (.int 0)) (tCons (tC (.str ("" : Str))) tNil)))))

/-- _law_value -/
def t_L_value (K : PySem.W.Frag) : TS :=
  (tSeq (tIfS (tTest (tOp rEq (tCall sp_L_take [] E0 (tCons (tVar 0) (tCons (tC (.int 3)) tNil))) (tC (.int 1)))) (tRet (tCall sp_L_text [] E0 (tCons (tVar 0) tNil))) tNext)
    (tRet (tOp rXL (xLst (tCons (tCall sp_L_take [] E0 (tCons (tVar 0) (tCons (tC (.int 4)) tNil))) (tCons (tCall sp_L_take [] E0 (tCons (tVar 0) (tCons (tC (.int 10007)) tNil))) tNil))) (tCall sp_L_take [] E0 (tCons (tVar 0) (tCons (tC (.int 2)) tNil))))))

/-- _law_alike from 6 -/
def t_L_alike_6 (K : PySem.W.Frag) (n : Nat) : TS :=
  (tSeq (tFor (iRng1 (tCons (tCB rLenQ (tCons (tVar 1) tNil)) tNil)) (gName 2)
    (tIfS (tNot (tB (tCall (sp_L_alike n) [] E0 (tCons (tOp rXQ (tVar 0) (tVar 2)) (tCons (tOp rXQ (tVar 1) (tVar 2)) tNil))))) (tRet (tC (.bl false))) tNext))
    (tRet (tC (.bl true))))

/-- _law_alike from 5 -/
def t_L_alike_5 (K : PySem.W.Frag) (n : Nat) : TS :=
  tSeq (tIfS (tTest (tOp rNe (tCB rLenQ (tCons (tVar 0) tNil)) (tCB rLenQ (tCons (tVar 1) tNil)))) (tRet (tC (.bl false))) tNext) (t_L_alike_6 K n)

/-- _law_alike from 4 -/
def t_L_alike_4 (K : PySem.W.Frag) (n : Nat) : TS :=
  tSeq (tIfS (tOr (tTest (tOp rNe (tCB (rIs "tuple") (tCons (tVar 1) (tCons (tC (.ty "tuple")) tNil))) (tCB (rIs "tuple") (tCons (tVar 0) (tCons (tC (.ty "tuple")) tNil))))) (tTest (tOp rNe (tCB (rIs "list") (tCons (tVar 1) (tCons (tC (.ty "list")) tNil))) (tCB (rIs "list") (tCons (tVar 0) (tCons (tC (.ty "list")) tNil)))))) (tRet (tC (.bl false))) tNext) (t_L_alike_5 K n)

/-- _law_alike from 3 -/
def t_L_alike_3 (K : PySem.W.Frag) (n : Nat) : TS :=
  tSeq (tIfS (tB (tCB (rIs "str") (tCons (tVar 1) (tCons (tC (.ty "str")) tNil)))) (tRet (tAndV (tCB (rIs "str") (tCons (tVar 0) (tCons (tC (.ty "str")) tNil))) (tOp rEq (tVar 0) (tVar 1)))) tNext) (t_L_alike_4 K n)

/-- _law_alike from 2 -/
def t_L_alike_2 (K : PySem.W.Frag) (n : Nat) : TS :=
  tSeq (tIfS (tB (tCB (rIs "int") (tCons (tVar 1) (tCons (tC (.ty "int")) tNil)))) (tRet (tAndV (tCB (rIs "int") (tCons (tVar 0) (tCons (tC (.ty "int")) tNil))) (tAndV (tNotV (tCB (rIs "bool") (tCons (tVar 0) (tCons (tC (.ty "bool")) tNil)))) (tOp rEq (tVar 0) (tVar 1))))) tNext) (t_L_alike_3 K n)

/-- _law_alike from 1 -/
def t_L_alike_1 (K : PySem.W.Frag) (n : Nat) : TS :=
  tSeq (tIfS (tB (tCB (rIs "bool") (tCons (tVar 1) (tCons (tC (.ty "bool")) tNil)))) (tRet (tAndV (tCB (rIs "bool") (tCons (tVar 0) (tCons (tC (.ty "bool")) tNil))) (tOp rEq (tVar 0) (tVar 1)))) tNext) (t_L_alike_2 K n)

/-- _law_alike -/
def t_L_alike (K : PySem.W.Frag) (n : Nat) : TS :=
  tSeq (tIfS (tTest (tOp rIsN (tVar 1) (tC .non))) (tRet (tOp rIsN (tVar 0) (tC .non))) tNext) (t_L_alike_1 K n)

/-! ### isinstance of values -/
theorem kitB_ss : kitB "str" "str" = some true := by decide +kernel
theorem kitB_is : kitB "int" "str" = some false := by decide +kernel
theorem is_str (x : Vl) (H : Hp) (Q : VK) : rIs "str" [x.v, .ty "str"] H Q ↔ Q (.bl (match x with | .n _ => false | .t _ => true)) H := by
  constructor
  · rintro ⟨y, b, e, ⟨n, hn, hk⟩, q⟩
    have e' := (List.cons.inj e).1
    subst e'
    cases x with
    | n i => cases (show n = "int" from hn); rw [kitB_is] at hk; cases hk; exact q
    | t z => cases (show n = "str" from hn); rw [kitB_ss] at hk; cases hk; exact q
  · intro q
    cases x with
    | n i => exact ⟨_, _, rfl, ⟨"int", rfl, kitB_is⟩, q⟩
    | t z => exact ⟨_, _, rfl, ⟨"str", rfl, kitB_ss⟩, q⟩
theorem rd_kind_of {K : PySem.W.Frag} {vs : List V} {H : Hp} {Q : VK} {E : XK} (h : sp_kind_of vs H Q E) : t_kind_of K { nx := fun _ H' => Q .non H', rt := Q } (start ["_"] vs) H := by
  obtain ⟨x, rfl, k⟩ := h
  show t_kind_of K _ [some x.v] H
  unfold t_kind_of
  refine st_seq ?_
  simp only [tIfS, tRet, tRetN, tAsg, gName, gSub, gCons, gNil, gTup, tDrop, tNext, tVar, tC, tOp, tUn, tTest, tB, tAnd, tOr, tNot, tAndV, tOrV, tNotV, tIf, tCons, tNil, xLst, xTup, xDic, tCB, tCall, tChain, tSl, tPart, tNoPart, rI, rI0, rU, rEq, rNe, scal, rXL, rXT, rXQ, rLenL, rLenT, rLenS, rLenQ, rInt1, rTupL, rLstL, rIsN, rNotN, rInT, rAddS, rLtS, rInS1, rNinS1, rIxS, rSlS, rStL, rCt, rSL, tApp, tPopAt, tPopL, tJoinL, tIndex, ixN0, ixN1, ixN2, ixN3, atI0, atI1, atI2, atI3, eqV_str, eqV_int, eqV_is, eqV_si, inV_nil, inV_cons, flatV, List.all_cons, List.all_nil, wd_eq, wd_ne0, wd_ne0', List.getElem?_cons_zero, List.getElem?_cons_succ, List.set_cons_zero, List.set_cons_succ, List.cons_append, List.nil_append, List.append_nil, Nat.reduceAdd, Nat.reduceLT, Option.some.injEq, V.int.injEq, V.str.injEq, V.bl.injEq, V.ref.injEq, HO.lst.injEq, HO.tup.injEq, HO.dK.injEq, List.cons.injEq, exists_eq_left, exists_eq_left', exists_eq_right, exists_eq_right', exists_and_left, exists_and_right, exists_const, exists_eq, exists_eq', and_assoc, true_and, and_true, false_and, and_false, true_or, or_true, false_or, or_false, reduceCtorEq, not_true_eq_false, not_false_eq_true, decide_true, decide_false, decide_eq_true_eq, decide_not, Bool.not_true, Bool.not_false, Bool.false_eq_true, Bool.true_and, Bool.and_true, Bool.false_and, Bool.and_false, Bool.true_or, Bool.or_true, Bool.false_or, Bool.or_false, if_true, if_false, ite_true, ite_false, Nat.reduceEqDiff, exists_false, eq_self, upd_same, Bool.not_eq_true', decide_eq_false_iff_not, is_str]
  cases x with
  | n i => simp only [tIfS, tRet, tRetN, tAsg, gName, gSub, gCons, gNil, gTup, tDrop, tNext, tVar, tC, tOp, tUn, tTest, tB, tAnd, tOr, tNot, tAndV, tOrV, tNotV, tIf, tCons, tNil, xLst, xTup, xDic, tCB, tCall, tChain, tSl, tPart, tNoPart, rI, rI0, rU, rEq, rNe, scal, rXL, rXT, rXQ, rLenL, rLenT, rLenS, rLenQ, rInt1, rTupL, rLstL, rIsN, rNotN, rInT, rAddS, rLtS, rInS1, rNinS1, rIxS, rSlS, rStL, rCt, rSL, tApp, tPopAt, tPopL, tJoinL, tIndex, ixN0, ixN1, ixN2, ixN3, atI0, atI1, atI2, atI3, eqV_str, eqV_int, eqV_is, eqV_si, inV_nil, inV_cons, flatV, List.all_cons, List.all_nil, wd_eq, wd_ne0, wd_ne0', List.getElem?_cons_zero, List.getElem?_cons_succ, List.set_cons_zero, List.set_cons_succ, List.cons_append, List.nil_append, List.append_nil, Nat.reduceAdd, Nat.reduceLT, Option.some.injEq, V.int.injEq, V.str.injEq, V.bl.injEq, V.ref.injEq, HO.lst.injEq, HO.tup.injEq, HO.dK.injEq, List.cons.injEq, exists_eq_left, exists_eq_left', exists_eq_right, exists_eq_right', exists_and_left, exists_and_right, exists_const, exists_eq, exists_eq', and_assoc, true_and, and_true, false_and, and_false, true_or, or_true, false_or, or_false, reduceCtorEq, not_true_eq_false, not_false_eq_true, decide_true, decide_false, decide_eq_true_eq, decide_not, Bool.not_true, Bool.not_false, Bool.false_eq_true, Bool.true_and, Bool.and_true, Bool.false_and, Bool.and_false, Bool.true_or, Bool.or_true, Bool.false_or, Bool.or_false, if_true, if_false, ite_true, ite_false, Nat.reduceEqDiff, exists_false, eq_self, upd_same, Bool.not_eq_true', decide_eq_false_iff_not]; exact k
  | t z => simp only [tIfS, tRet, tRetN, tAsg, gName, gSub, gCons, gNil, gTup, tDrop, tNext, tVar, tC, tOp, tUn, tTest, tB, tAnd, tOr, tNot, tAndV, tOrV, tNotV, tIf, tCons, tNil, xLst, xTup, xDic, tCB, tCall, tChain, tSl, tPart, tNoPart, rI, rI0, rU, rEq, rNe, scal, rXL, rXT, rXQ, rLenL, rLenT, rLenS, rLenQ, rInt1, rTupL, rLstL, rIsN, rNotN, rInT, rAddS, rLtS, rInS1, rNinS1, rIxS, rSlS, rStL, rCt, rSL, tApp, tPopAt, tPopL, tJoinL, tIndex, ixN0, ixN1, ixN2, ixN3, atI0, atI1, atI2, atI3, eqV_str, eqV_int, eqV_is, eqV_si, inV_nil, inV_cons, flatV, List.all_cons, List.all_nil, wd_eq, wd_ne0, wd_ne0', List.getElem?_cons_zero, List.getElem?_cons_succ, List.set_cons_zero, List.set_cons_succ, List.cons_append, List.nil_append, List.append_nil, Nat.reduceAdd, Nat.reduceLT, Option.some.injEq, V.int.injEq, V.str.injEq, V.bl.injEq, V.ref.injEq, HO.lst.injEq, HO.tup.injEq, HO.dK.injEq, List.cons.injEq, exists_eq_left, exists_eq_left', exists_eq_right, exists_eq_right', exists_and_left, exists_and_right, exists_const, exists_eq, exists_eq', and_assoc, true_and, and_true, false_and, and_false, true_or, or_true, false_or, or_false, reduceCtorEq, not_true_eq_false, not_false_eq_true, decide_true, decide_false, decide_eq_true_eq, decide_not, Bool.not_true, Bool.not_false, Bool.false_eq_true, Bool.true_and, Bool.and_true, Bool.false_and, Bool.and_false, Bool.true_or, Bool.or_true, Bool.false_or, Bool.or_false, if_true, if_false, ite_true, ite_false, Nat.reduceEqDiff, exists_false, eq_self, upd_same, Bool.not_eq_true', decide_eq_false_iff_not]; exact k
theorem rd_is_so {K : PySem.W.Frag} {vs : List V} {H : Hp} {Q : VK} {E : XK} (h : sp_is_so vs H Q E) : t_is_so K { nx := fun _ H' => Q .non H', rt := Q } (start ["_"] vs) H := by
  obtain ⟨x, rfl, k⟩ := h
  show t_is_so K _ [some x.v] H
  unfold t_is_so
  have k0 := k H (.refl _ _)
  cases x with
  | n i =>
    simp only [tIfS, tRet, tRetN, tAsg, gName, gSub, gCons, gNil, gTup, tDrop, tNext, tVar, tC, tOp, tUn, tTest, tB, tAnd, tOr, tNot, tAndV, tOrV, tNotV, tIf, tCons, tNil, xLst, xTup, xDic, tCB, tCall, tChain, tSl, tPart, tNoPart, rI, rI0, rU, rEq, rNe, scal, rXL, rXT, rXQ, rLenL, rLenT, rLenS, rLenQ, rInt1, rTupL, rLstL, rIsN, rNotN, rInT, rAddS, rLtS, rInS1, rNinS1, rIxS, rSlS, rStL, rCt, rSL, tApp, tPopAt, tPopL, tJoinL, tIndex, ixN0, ixN1, ixN2, ixN3, atI0, atI1, atI2, atI3, eqV_str, eqV_int, eqV_is, eqV_si, inV_nil, inV_cons, flatV, List.all_cons, List.all_nil, wd_eq, wd_ne0, wd_ne0', List.getElem?_cons_zero, List.getElem?_cons_succ, List.set_cons_zero, List.set_cons_succ, List.cons_append, List.nil_append, List.append_nil, Nat.reduceAdd, Nat.reduceLT, Option.some.injEq, V.int.injEq, V.str.injEq, V.bl.injEq, V.ref.injEq, HO.lst.injEq, HO.tup.injEq, HO.dK.injEq, List.cons.injEq, exists_eq_left, exists_eq_left', exists_eq_right, exists_eq_right', exists_and_left, exists_and_right, exists_const, exists_eq, exists_eq', and_assoc, true_and, and_true, false_and, and_false, true_or, or_true, false_or, or_false, reduceCtorEq, not_true_eq_false, not_false_eq_true, decide_true, decide_false, decide_eq_true_eq, decide_not, Bool.not_true, Bool.not_false, Bool.false_eq_true, Bool.true_and, Bool.and_true, Bool.false_and, Bool.and_false, Bool.true_or, Bool.or_true, Bool.false_or, Bool.or_false, if_true, if_false, ite_true, ite_false, Nat.reduceEqDiff, exists_false, eq_self, upd_same, Bool.not_eq_true', decide_eq_false_iff_not, Vl.v]
    simp only [Vl.so] at k0
    split
    · next h => rw [decide_eq_false h] at k0; exact k0
    · next h => rw [decide_eq_true (by simpa using h)] at k0; exact k0
  | t z => simp only [tIfS, tRet, tRetN, tAsg, gName, gSub, gCons, gNil, gTup, tDrop, tNext, tVar, tC, tOp, tUn, tTest, tB, tAnd, tOr, tNot, tAndV, tOrV, tNotV, tIf, tCons, tNil, xLst, xTup, xDic, tCB, tCall, tChain, tSl, tPart, tNoPart, rI, rI0, rU, rEq, rNe, scal, rXL, rXT, rXQ, rLenL, rLenT, rLenS, rLenQ, rInt1, rTupL, rLstL, rIsN, rNotN, rInT, rAddS, rLtS, rInS1, rNinS1, rIxS, rSlS, rStL, rCt, rSL, tApp, tPopAt, tPopL, tJoinL, tIndex, ixN0, ixN1, ixN2, ixN3, atI0, atI1, atI2, atI3, eqV_str, eqV_int, eqV_is, eqV_si, inV_nil, inV_cons, flatV, List.all_cons, List.all_nil, wd_eq, wd_ne0, wd_ne0', List.getElem?_cons_zero, List.getElem?_cons_succ, List.set_cons_zero, List.set_cons_succ, List.cons_append, List.nil_append, List.append_nil, Nat.reduceAdd, Nat.reduceLT, Option.some.injEq, V.int.injEq, V.str.injEq, V.bl.injEq, V.ref.injEq, HO.lst.injEq, HO.tup.injEq, HO.dK.injEq, List.cons.injEq, exists_eq_left, exists_eq_left', exists_eq_right, exists_eq_right', exists_and_left, exists_and_right, exists_const, exists_eq, exists_eq', and_assoc, true_and, and_true, false_and, and_false, true_or, or_true, false_or, or_false, reduceCtorEq, not_true_eq_false, not_false_eq_true, decide_true, decide_false, decide_eq_true_eq, decide_not, Bool.not_true, Bool.not_false, Bool.false_eq_true, Bool.true_and, Bool.and_true, Bool.false_and, Bool.and_false, Bool.true_or, Bool.or_true, Bool.false_or, Bool.or_false, if_true, if_false, ite_true, ite_false, Nat.reduceEqDiff, exists_false, eq_self, upd_same, Bool.not_eq_true', decide_eq_false_iff_not, Vl.v]; exact k0
theorem rd_L_is_so {K : PySem.W.Frag} {vs : List V} {H : Hp} {Q : VK} {E : XK} (h : sp_L_is_so vs H Q E) : t_L_is_so K { nx := fun _ H' => Q .non H', rt := Q } (start ["_"] vs) H := by
  obtain ⟨x, rfl, k⟩ := h
  show t_L_is_so K _ [some x.v] H
  unfold t_L_is_so
  simp only [tIfS, tRet, tRetN, tAsg, gName, gSub, gCons, gNil, gTup, tDrop, tNext, tVar, tC, tOp, tUn, tTest, tB, tAnd, tOr, tNot, tAndV, tOrV, tNotV, tIf, tCons, tNil, xLst, xTup, xDic, tCB, tCall, tChain, tSl, tPart, tNoPart, rI, rI0, rU, rEq, rNe, scal, rXL, rXT, rXQ, rLenL, rLenT, rLenS, rLenQ, rInt1, rTupL, rLstL, rIsN, rNotN, rInT, rAddS, rLtS, rInS1, rNinS1, rIxS, rSlS, rStL, rCt, rSL, tApp, tPopAt, tPopL, tJoinL, tIndex, ixN0, ixN1, ixN2, ixN3, atI0, atI1, atI2, atI3, eqV_str, eqV_int, eqV_is, eqV_si, inV_nil, inV_cons, flatV, List.all_cons, List.all_nil, wd_eq, wd_ne0, wd_ne0', List.getElem?_cons_zero, List.getElem?_cons_succ, List.set_cons_zero, List.set_cons_succ, List.cons_append, List.nil_append, List.append_nil, Nat.reduceAdd, Nat.reduceLT, Option.some.injEq, V.int.injEq, V.str.injEq, V.bl.injEq, V.ref.injEq, HO.lst.injEq, HO.tup.injEq, HO.dK.injEq, List.cons.injEq, exists_eq_left, exists_eq_left', exists_eq_right, exists_eq_right', exists_and_left, exists_and_right, exists_const, exists_eq, exists_eq', and_assoc, true_and, and_true, false_and, and_false, true_or, or_true, false_or, or_false, reduceCtorEq, not_true_eq_false, not_false_eq_true, decide_true, decide_false, decide_eq_true_eq, decide_not, Bool.not_true, Bool.not_false, Bool.false_eq_true, Bool.true_and, Bool.and_true, Bool.false_and, Bool.and_false, Bool.true_or, Bool.or_true, Bool.false_or, Bool.or_false, if_true, if_false, ite_true, ite_false, Nat.reduceEqDiff, exists_false, eq_self, upd_same, Bool.not_eq_true', decide_eq_false_iff_not]
  refine ⟨by decide, fun p H1 A => ?_⟩
  have k0 := k H1 A.fr
  cases x with
  | n i =>
    simp only [tIfS, tRet, tRetN, tAsg, gName, gSub, gCons, gNil, gTup, tDrop, tNext, tVar, tC, tOp, tUn, tTest, tB, tAnd, tOr, tNot, tAndV, tOrV, tNotV, tIf, tCons, tNil, xLst, xTup, xDic, tCB, tCall, tChain, tSl, tPart, tNoPart, rI, rI0, rU, rEq, rNe, scal, rXL, rXT, rXQ, rLenL, rLenT, rLenS, rLenQ, rInt1, rTupL, rLstL, rIsN, rNotN, rInT, rAddS, rLtS, rInS1, rNinS1, rIxS, rSlS, rStL, rCt, rSL, tApp, tPopAt, tPopL, tJoinL, tIndex, ixN0, ixN1, ixN2, ixN3, atI0, atI1, atI2, atI3, eqV_str, eqV_int, eqV_is, eqV_si, inV_nil, inV_cons, flatV, List.all_cons, List.all_nil, wd_eq, wd_ne0, wd_ne0', List.getElem?_cons_zero, List.getElem?_cons_succ, List.set_cons_zero, List.set_cons_succ, List.cons_append, List.nil_append, List.append_nil, Nat.reduceAdd, Nat.reduceLT, Option.some.injEq, V.int.injEq, V.str.injEq, V.bl.injEq, V.ref.injEq, HO.lst.injEq, HO.tup.injEq, HO.dK.injEq, List.cons.injEq, exists_eq_left, exists_eq_left', exists_eq_right, exists_eq_right', exists_and_left, exists_and_right, exists_const, exists_eq, exists_eq', and_assoc, true_and, and_true, false_and, and_false, true_or, or_true, false_or, or_false, reduceCtorEq, not_true_eq_false, not_false_eq_true, decide_true, decide_false, decide_eq_true_eq, decide_not, Bool.not_true, Bool.not_false, Bool.false_eq_true, Bool.true_and, Bool.and_true, Bool.false_and, Bool.and_false, Bool.true_or, Bool.or_true, Bool.false_or, Bool.or_false, if_true, if_false, ite_true, ite_false, Nat.reduceEqDiff, exists_false, eq_self, upd_same, Bool.not_eq_true', decide_eq_false_iff_not, Vl.v, A.at_]
    simp only [Vl.so] at k0
    rw [show decide (0 = i) = decide (i = 0) from by simp [eq_comm]]
    exact k0
  | t z =>
    simp only [tIfS, tRet, tRetN, tAsg, gName, gSub, gCons, gNil, gTup, tDrop, tNext, tVar, tC, tOp, tUn, tTest, tB, tAnd, tOr, tNot, tAndV, tOrV, tNotV, tIf, tCons, tNil, xLst, xTup, xDic, tCB, tCall, tChain, tSl, tPart, tNoPart, rI, rI0, rU, rEq, rNe, scal, rXL, rXT, rXQ, rLenL, rLenT, rLenS, rLenQ, rInt1, rTupL, rLstL, rIsN, rNotN, rInT, rAddS, rLtS, rInS1, rNinS1, rIxS, rSlS, rStL, rCt, rSL, tApp, tPopAt, tPopL, tJoinL, tIndex, ixN0, ixN1, ixN2, ixN3, atI0, atI1, atI2, atI3, eqV_str, eqV_int, eqV_is, eqV_si, inV_nil, inV_cons, flatV, List.all_cons, List.all_nil, wd_eq, wd_ne0, wd_ne0', List.getElem?_cons_zero, List.getElem?_cons_succ, List.set_cons_zero, List.set_cons_succ, List.cons_append, List.nil_append, List.append_nil, Nat.reduceAdd, Nat.reduceLT, Option.some.injEq, V.int.injEq, V.str.injEq, V.bl.injEq, V.ref.injEq, HO.lst.injEq, HO.tup.injEq, HO.dK.injEq, List.cons.injEq, exists_eq_left, exists_eq_left', exists_eq_right, exists_eq_right', exists_and_left, exists_and_right, exists_const, exists_eq, exists_eq', and_assoc, true_and, and_true, false_and, and_false, true_or, or_true, false_or, or_false, reduceCtorEq, not_true_eq_false, not_false_eq_true, decide_true, decide_false, decide_eq_true_eq, decide_not, Bool.not_true, Bool.not_false, Bool.false_eq_true, Bool.true_and, Bool.and_true, Bool.false_and, Bool.and_false, Bool.true_or, Bool.or_true, Bool.false_or, Bool.or_false, if_true, if_false, ite_true, ite_false, Nat.reduceEqDiff, exists_false, eq_self, upd_same, Bool.not_eq_true', decide_eq_false_iff_not, Vl.v, A.at_]
    simp only [Vl.so] at k0
    rw [show decide (("" : Str) = z) = decide (z = ("" : Str)) from by simp [eq_comm]]
    exact k0
theorem rd_of_numbers {K : PySem.W.Frag} {vs : List V} {H : Hp} {Q : VK} {E : XK} (h : sp_of_numbers vs H Q E) : t_of_numbers K { nx := fun _ H' => Q .non H', rt := Q } (start ["_", "_", "_"] vs) H := by
  obtain ⟨s, i, j, rfl, hs, k⟩ := h
  show t_of_numbers K _ [some (.str s.s), some (.int i), some (.int j)] H
  unfold t_of_numbers
  refine st_seq ?_
  cases s with
  | add => simp only [tIfS, tRet, tRetN, tAsg, gName, gSub, gCons, gNil, gTup, tDrop, tNext, tVar, tC, tOp, tUn, tTest, tB, tAnd, tOr, tNot, tAndV, tOrV, tNotV, tIf, tCons, tNil, xLst, xTup, xDic, tCB, tCall, tChain, tSl, tPart, tNoPart, rI, rI0, rU, rEq, rNe, scal, rXL, rXT, rXQ, rLenL, rLenT, rLenS, rLenQ, rInt1, rTupL, rLstL, rIsN, rNotN, rInT, rAddS, rLtS, rInS1, rNinS1, rIxS, rSlS, rStL, rCt, rSL, tApp, tPopAt, tPopL, tJoinL, tIndex, ixN0, ixN1, ixN2, ixN3, atI0, atI1, atI2, atI3, eqV_str, eqV_int, eqV_is, eqV_si, inV_nil, inV_cons, flatV, List.all_cons, List.all_nil, wd_eq, wd_ne0, wd_ne0', List.getElem?_cons_zero, List.getElem?_cons_succ, List.set_cons_zero, List.set_cons_succ, List.cons_append, List.nil_append, List.append_nil, Nat.reduceAdd, Nat.reduceLT, Option.some.injEq, V.int.injEq, V.str.injEq, V.bl.injEq, V.ref.injEq, HO.lst.injEq, HO.tup.injEq, HO.dK.injEq, List.cons.injEq, exists_eq_left, exists_eq_left', exists_eq_right, exists_eq_right', exists_and_left, exists_and_right, exists_const, exists_eq, exists_eq', and_assoc, true_and, and_true, false_and, and_false, true_or, or_true, false_or, or_false, reduceCtorEq, not_true_eq_false, not_false_eq_true, decide_true, decide_false, decide_eq_true_eq, decide_not, Bool.not_true, Bool.not_false, Bool.false_eq_true, Bool.true_and, Bool.and_true, Bool.false_and, Bool.and_false, Bool.true_or, Bool.or_true, Bool.false_or, Bool.or_false, if_true, if_false, ite_true, ite_false, Nat.reduceEqDiff, exists_false, eq_self, upd_same, Bool.not_eq_true', decide_eq_false_iff_not, Sg.s, Sg.ix]; exact ⟨by decide, k⟩
  | sub => simp only [tIfS, tRet, tRetN, tAsg, gName, gSub, gCons, gNil, gTup, tDrop, tNext, tVar, tC, tOp, tUn, tTest, tB, tAnd, tOr, tNot, tAndV, tOrV, tNotV, tIf, tCons, tNil, xLst, xTup, xDic, tCB, tCall, tChain, tSl, tPart, tNoPart, rI, rI0, rU, rEq, rNe, scal, rXL, rXT, rXQ, rLenL, rLenT, rLenS, rLenQ, rInt1, rTupL, rLstL, rIsN, rNotN, rInT, rAddS, rLtS, rInS1, rNinS1, rIxS, rSlS, rStL, rCt, rSL, tApp, tPopAt, tPopL, tJoinL, tIndex, ixN0, ixN1, ixN2, ixN3, atI0, atI1, atI2, atI3, eqV_str, eqV_int, eqV_is, eqV_si, inV_nil, inV_cons, flatV, List.all_cons, List.all_nil, wd_eq, wd_ne0, wd_ne0', List.getElem?_cons_zero, List.getElem?_cons_succ, List.set_cons_zero, List.set_cons_succ, List.cons_append, List.nil_append, List.append_nil, Nat.reduceAdd, Nat.reduceLT, Option.some.injEq, V.int.injEq, V.str.injEq, V.bl.injEq, V.ref.injEq, HO.lst.injEq, HO.tup.injEq, HO.dK.injEq, List.cons.injEq, exists_eq_left, exists_eq_left', exists_eq_right, exists_eq_right', exists_and_left, exists_and_right, exists_const, exists_eq, exists_eq', and_assoc, true_and, and_true, false_and, and_false, true_or, or_true, false_or, or_false, reduceCtorEq, not_true_eq_false, not_false_eq_true, decide_true, decide_false, decide_eq_true_eq, decide_not, Bool.not_true, Bool.not_false, Bool.false_eq_true, Bool.true_and, Bool.and_true, Bool.false_and, Bool.and_false, Bool.true_or, Bool.or_true, Bool.false_or, Bool.or_false, if_true, if_false, ite_true, ite_false, Nat.reduceEqDiff, exists_false, eq_self, upd_same, Bool.not_eq_true', decide_eq_false_iff_not, Sg.s, Sg.ix]; refine st_seq ?_; simp only [tIfS, tRet, tRetN, tAsg, gName, gSub, gCons, gNil, gTup, tDrop, tNext, tVar, tC, tOp, tUn, tTest, tB, tAnd, tOr, tNot, tAndV, tOrV, tNotV, tIf, tCons, tNil, xLst, xTup, xDic, tCB, tCall, tChain, tSl, tPart, tNoPart, rI, rI0, rU, rEq, rNe, scal, rXL, rXT, rXQ, rLenL, rLenT, rLenS, rLenQ, rInt1, rTupL, rLstL, rIsN, rNotN, rInT, rAddS, rLtS, rInS1, rNinS1, rIxS, rSlS, rStL, rCt, rSL, tApp, tPopAt, tPopL, tJoinL, tIndex, ixN0, ixN1, ixN2, ixN3, atI0, atI1, atI2, atI3, eqV_str, eqV_int, eqV_is, eqV_si, inV_nil, inV_cons, flatV, List.all_cons, List.all_nil, wd_eq, wd_ne0, wd_ne0', List.getElem?_cons_zero, List.getElem?_cons_succ, List.set_cons_zero, List.set_cons_succ, List.cons_append, List.nil_append, List.append_nil, Nat.reduceAdd, Nat.reduceLT, Option.some.injEq, V.int.injEq, V.str.injEq, V.bl.injEq, V.ref.injEq, HO.lst.injEq, HO.tup.injEq, HO.dK.injEq, List.cons.injEq, exists_eq_left, exists_eq_left', exists_eq_right, exists_eq_right', exists_and_left, exists_and_right, exists_const, exists_eq, exists_eq', and_assoc, true_and, and_true, false_and, and_false, true_or, or_true, false_or, or_false, reduceCtorEq, not_true_eq_false, not_false_eq_true, decide_true, decide_false, decide_eq_true_eq, decide_not, Bool.not_true, Bool.not_false, Bool.false_eq_true, Bool.true_and, Bool.and_true, Bool.false_and, Bool.and_false, Bool.true_or, Bool.or_true, Bool.false_or, Bool.or_false, if_true, if_false, ite_true, ite_false, Nat.reduceEqDiff, exists_false, eq_self, upd_same, Bool.not_eq_true', decide_eq_false_iff_not, Sg.s, Sg.ix]; exact ⟨by decide, k⟩
  | less => simp only [tIfS, tRet, tRetN, tAsg, gName, gSub, gCons, gNil, gTup, tDrop, tNext, tVar, tC, tOp, tUn, tTest, tB, tAnd, tOr, tNot, tAndV, tOrV, tNotV, tIf, tCons, tNil, xLst, xTup, xDic, tCB, tCall, tChain, tSl, tPart, tNoPart, rI, rI0, rU, rEq, rNe, scal, rXL, rXT, rXQ, rLenL, rLenT, rLenS, rLenQ, rInt1, rTupL, rLstL, rIsN, rNotN, rInT, rAddS, rLtS, rInS1, rNinS1, rIxS, rSlS, rStL, rCt, rSL, tApp, tPopAt, tPopL, tJoinL, tIndex, ixN0, ixN1, ixN2, ixN3, atI0, atI1, atI2, atI3, eqV_str, eqV_int, eqV_is, eqV_si, inV_nil, inV_cons, flatV, List.all_cons, List.all_nil, wd_eq, wd_ne0, wd_ne0', List.getElem?_cons_zero, List.getElem?_cons_succ, List.set_cons_zero, List.set_cons_succ, List.cons_append, List.nil_append, List.append_nil, Nat.reduceAdd, Nat.reduceLT, Option.some.injEq, V.int.injEq, V.str.injEq, V.bl.injEq, V.ref.injEq, HO.lst.injEq, HO.tup.injEq, HO.dK.injEq, List.cons.injEq, exists_eq_left, exists_eq_left', exists_eq_right, exists_eq_right', exists_and_left, exists_and_right, exists_const, exists_eq, exists_eq', and_assoc, true_and, and_true, false_and, and_false, true_or, or_true, false_or, or_false, reduceCtorEq, not_true_eq_false, not_false_eq_true, decide_true, decide_false, decide_eq_true_eq, decide_not, Bool.not_true, Bool.not_false, Bool.false_eq_true, Bool.true_and, Bool.and_true, Bool.false_and, Bool.and_false, Bool.true_or, Bool.or_true, Bool.false_or, Bool.or_false, if_true, if_false, ite_true, ite_false, Nat.reduceEqDiff, exists_false, eq_self, upd_same, Bool.not_eq_true', decide_eq_false_iff_not, Sg.s, Sg.ix]; refine st_seq ?_; simp only [tIfS, tRet, tRetN, tAsg, gName, gSub, gCons, gNil, gTup, tDrop, tNext, tVar, tC, tOp, tUn, tTest, tB, tAnd, tOr, tNot, tAndV, tOrV, tNotV, tIf, tCons, tNil, xLst, xTup, xDic, tCB, tCall, tChain, tSl, tPart, tNoPart, rI, rI0, rU, rEq, rNe, scal, rXL, rXT, rXQ, rLenL, rLenT, rLenS, rLenQ, rInt1, rTupL, rLstL, rIsN, rNotN, rInT, rAddS, rLtS, rInS1, rNinS1, rIxS, rSlS, rStL, rCt, rSL, tApp, tPopAt, tPopL, tJoinL, tIndex, ixN0, ixN1, ixN2, ixN3, atI0, atI1, atI2, atI3, eqV_str, eqV_int, eqV_is, eqV_si, inV_nil, inV_cons, flatV, List.all_cons, List.all_nil, wd_eq, wd_ne0, wd_ne0', List.getElem?_cons_zero, List.getElem?_cons_succ, List.set_cons_zero, List.set_cons_succ, List.cons_append, List.nil_append, List.append_nil, Nat.reduceAdd, Nat.reduceLT, Option.some.injEq, V.int.injEq, V.str.injEq, V.bl.injEq, V.ref.injEq, HO.lst.injEq, HO.tup.injEq, HO.dK.injEq, List.cons.injEq, exists_eq_left, exists_eq_left', exists_eq_right, exists_eq_right', exists_and_left, exists_and_right, exists_const, exists_eq, exists_eq', and_assoc, true_and, and_true, false_and, and_false, true_or, or_true, false_or, or_false, reduceCtorEq, not_true_eq_false, not_false_eq_true, decide_true, decide_false, decide_eq_true_eq, decide_not, Bool.not_true, Bool.not_false, Bool.false_eq_true, Bool.true_and, Bool.and_true, Bool.false_and, Bool.and_false, Bool.true_or, Bool.or_true, Bool.false_or, Bool.or_false, if_true, if_false, ite_true, ite_false, Nat.reduceEqDiff, exists_false, eq_self, upd_same, Bool.not_eq_true', decide_eq_false_iff_not, Sg.s, Sg.ix]; simpa [ov, wk, Vl.v, b2n] using k
  | same => exact absurd rfl hs
theorem sg_eq (s : Sg) (i : Nat) (hi : i < 42) : (s.s = wd i) = (s.ix = i) := wd_eq (by cases s <;> decide) hi
theorem kd_eq (x y : Vl) : (x.kd = y.kd) = ((match x with | .n _ => true | .t _ => false) = (match y with | .n _ => true | .t _ => false)) := by
  cases x <;> cases y <;> simp only [Vl.kd] <;> first | (rw [wd_eq (by decide) (by decide)] <;> simp) | simp
theorem scal_v (x y : Vl) : scal x.v y.v = true := by cases x <;> cases y <;> rfl
theorem rd_worked {K : PySem.W.Frag} {vs : List V} {H : Hp} {Q : VK} {E : XK} (h : sp_worked vs H Q E) : t_worked K { nx := fun _ H' => Q .non H', rt := Q } (start ["_", "_", "_"] vs) H := by
  obtain ⟨s, x, y, rfl, hx, hy, k⟩ := h
  show t_worked K _ [some (.str s.s), some x.v, some y.v] H
  unfold t_worked
  refine st_seq ?_
  simp only [tIfS, tRet, tRetN, tAsg, gName, gSub, gCons, gNil, gTup, tDrop, tNext, tVar, tC, tOp, tUn, tTest, tB, tAnd, tOr, tNot, tAndV, tOrV, tNotV, tIf, tCons, tNil, xLst, xTup, xDic, tCB, tCall, tChain, tSl, tPart, tNoPart, rI, rI0, rU, rEq, rNe, scal, rXL, rXT, rXQ, rLenL, rLenT, rLenS, rLenQ, rInt1, rTupL, rLstL, rIsN, rNotN, rInT, rAddS, rLtS, rInS1, rNinS1, rIxS, rSlS, rStL, rCt, rSL, tApp, tPopAt, tPopL, tJoinL, tIndex, ixN0, ixN1, ixN2, ixN3, atI0, atI1, atI2, atI3, eqV_str, eqV_int, eqV_is, eqV_si, inV_nil, inV_cons, flatV, List.all_cons, List.all_nil, wd_eq, wd_ne0, wd_ne0', List.getElem?_cons_zero, List.getElem?_cons_succ, List.set_cons_zero, List.set_cons_succ, List.cons_append, List.nil_append, List.append_nil, Nat.reduceAdd, Nat.reduceLT, Option.some.injEq, V.int.injEq, V.str.injEq, V.bl.injEq, V.ref.injEq, HO.lst.injEq, HO.tup.injEq, HO.dK.injEq, List.cons.injEq, exists_eq_left, exists_eq_left', exists_eq_right, exists_eq_right', exists_and_left, exists_and_right, exists_const, exists_eq, exists_eq', and_assoc, true_and, and_true, false_and, and_false, true_or, or_true, false_or, or_false, reduceCtorEq, not_true_eq_false, not_false_eq_true, decide_true, decide_false, decide_eq_true_eq, decide_not, Bool.not_true, Bool.not_false, Bool.false_eq_true, Bool.true_and, Bool.and_true, Bool.false_and, Bool.and_false, Bool.true_or, Bool.or_true, Bool.false_or, Bool.or_false, if_true, if_false, ite_true, ite_false, Nat.reduceEqDiff, exists_false, eq_self, upd_same, Bool.not_eq_true', decide_eq_false_iff_not, sg_eq]
  by_cases hs : s = .same
  · subst hs
    simp only [Sg.ix]
    simp only [tIfS, tRet, tRetN, tAsg, gName, gSub, gCons, gNil, gTup, tDrop, tNext, tVar, tC, tOp, tUn, tTest, tB, tAnd, tOr, tNot, tAndV, tOrV, tNotV, tIf, tCons, tNil, xLst, xTup, xDic, tCB, tCall, tChain, tSl, tPart, tNoPart, rI, rI0, rU, rEq, rNe, scal, rXL, rXT, rXQ, rLenL, rLenT, rLenS, rLenQ, rInt1, rTupL, rLstL, rIsN, rNotN, rInT, rAddS, rLtS, rInS1, rNinS1, rIxS, rSlS, rStL, rCt, rSL, tApp, tPopAt, tPopL, tJoinL, tIndex, ixN0, ixN1, ixN2, ixN3, atI0, atI1, atI2, atI3, eqV_str, eqV_int, eqV_is, eqV_si, inV_nil, inV_cons, flatV, List.all_cons, List.all_nil, wd_eq, wd_ne0, wd_ne0', List.getElem?_cons_zero, List.getElem?_cons_succ, List.set_cons_zero, List.set_cons_succ, List.cons_append, List.nil_append, List.append_nil, Nat.reduceAdd, Nat.reduceLT, Option.some.injEq, V.int.injEq, V.str.injEq, V.bl.injEq, V.ref.injEq, HO.lst.injEq, HO.tup.injEq, HO.dK.injEq, List.cons.injEq, exists_eq_left, exists_eq_left', exists_eq_right, exists_eq_right', exists_and_left, exists_and_right, exists_const, exists_eq, exists_eq', and_assoc, true_and, and_true, false_and, and_false, true_or, or_true, false_or, or_false, reduceCtorEq, not_true_eq_false, not_false_eq_true, decide_true, decide_false, decide_eq_true_eq, decide_not, Bool.not_true, Bool.not_false, Bool.false_eq_true, Bool.true_and, Bool.and_true, Bool.false_and, Bool.and_false, Bool.true_or, Bool.or_true, Bool.false_or, Bool.or_false, if_true, if_false, ite_true, ite_false, Nat.reduceEqDiff, exists_false, eq_self, upd_same, Bool.not_eq_true', decide_eq_false_iff_not]
    refine ⟨x, rfl, y, rfl, ?_⟩
    simp only [tIfS, tRet, tRetN, tAsg, gName, gSub, gCons, gNil, gTup, tDrop, tNext, tVar, tC, tOp, tUn, tTest, tB, tAnd, tOr, tNot, tAndV, tOrV, tNotV, tIf, tCons, tNil, xLst, xTup, xDic, tCB, tCall, tChain, tSl, tPart, tNoPart, rI, rI0, rU, rEq, rNe, scal, rXL, rXT, rXQ, rLenL, rLenT, rLenS, rLenQ, rInt1, rTupL, rLstL, rIsN, rNotN, rInT, rAddS, rLtS, rInS1, rNinS1, rIxS, rSlS, rStL, rCt, rSL, tApp, tPopAt, tPopL, tJoinL, tIndex, ixN0, ixN1, ixN2, ixN3, atI0, atI1, atI2, atI3, eqV_str, eqV_int, eqV_is, eqV_si, inV_nil, inV_cons, flatV, List.all_cons, List.all_nil, wd_eq, wd_ne0, wd_ne0', List.getElem?_cons_zero, List.getElem?_cons_succ, List.set_cons_zero, List.set_cons_succ, List.cons_append, List.nil_append, List.append_nil, Nat.reduceAdd, Nat.reduceLT, Option.some.injEq, V.int.injEq, V.str.injEq, V.bl.injEq, V.ref.injEq, HO.lst.injEq, HO.tup.injEq, HO.dK.injEq, List.cons.injEq, exists_eq_left, exists_eq_left', exists_eq_right, exists_eq_right', exists_and_left, exists_and_right, exists_const, exists_eq, exists_eq', and_assoc, true_and, and_true, false_and, and_false, true_or, or_true, false_or, or_false, reduceCtorEq, not_true_eq_false, not_false_eq_true, decide_true, decide_false, decide_eq_true_eq, decide_not, Bool.not_true, Bool.not_false, Bool.false_eq_true, Bool.true_and, Bool.and_true, Bool.false_and, Bool.and_false, Bool.true_or, Bool.or_true, Bool.false_or, Bool.or_false, if_true, if_false, ite_true, ite_false, Nat.reduceEqDiff, exists_false, eq_self, upd_same, Bool.not_eq_true', decide_eq_false_iff_not, scal_v, kd_eq, Vl.v_inj]
    have k0 := k H (.refl _ _)
    cases x <;> cases y <;> simp_all [ov, wk, b2n, Vl.v]
  · have e : ¬ s.ix = 6 := by cases s <;> simp_all [Sg.ix]
    rw [if_neg e]
    refine st_seq ?_
    simp only [tIfS, tRet, tRetN, tAsg, gName, gSub, gCons, gNil, gTup, tDrop, tNext, tVar, tC, tOp, tUn, tTest, tB, tAnd, tOr, tNot, tAndV, tOrV, tNotV, tIf, tCons, tNil, xLst, xTup, xDic, tCB, tCall, tChain, tSl, tPart, tNoPart, rI, rI0, rU, rEq, rNe, scal, rXL, rXT, rXQ, rLenL, rLenT, rLenS, rLenQ, rInt1, rTupL, rLstL, rIsN, rNotN, rInT, rAddS, rLtS, rInS1, rNinS1, rIxS, rSlS, rStL, rCt, rSL, tApp, tPopAt, tPopL, tJoinL, tIndex, ixN0, ixN1, ixN2, ixN3, atI0, atI1, atI2, atI3, eqV_str, eqV_int, eqV_is, eqV_si, inV_nil, inV_cons, flatV, List.all_cons, List.all_nil, wd_eq, wd_ne0, wd_ne0', List.getElem?_cons_zero, List.getElem?_cons_succ, List.set_cons_zero, List.set_cons_succ, List.cons_append, List.nil_append, List.append_nil, Nat.reduceAdd, Nat.reduceLT, Option.some.injEq, V.int.injEq, V.str.injEq, V.bl.injEq, V.ref.injEq, HO.lst.injEq, HO.tup.injEq, HO.dK.injEq, List.cons.injEq, exists_eq_left, exists_eq_left', exists_eq_right, exists_eq_right', exists_and_left, exists_and_right, exists_const, exists_eq, exists_eq', and_assoc, true_and, and_true, false_and, and_false, true_or, or_true, false_or, or_false, reduceCtorEq, not_true_eq_false, not_false_eq_true, decide_true, decide_false, decide_eq_true_eq, decide_not, Bool.not_true, Bool.not_false, Bool.false_eq_true, Bool.true_and, Bool.and_true, Bool.false_and, Bool.and_false, Bool.true_or, Bool.or_true, Bool.false_or, Bool.or_false, if_true, if_false, ite_true, ite_false, Nat.reduceEqDiff, exists_false, eq_self, upd_same, Bool.not_eq_true', decide_eq_false_iff_not]
    refine ⟨x, rfl, y, rfl, ?_⟩
    simp only [tIfS, tRet, tRetN, tAsg, gName, gSub, gCons, gNil, gTup, tDrop, tNext, tVar, tC, tOp, tUn, tTest, tB, tAnd, tOr, tNot, tAndV, tOrV, tNotV, tIf, tCons, tNil, xLst, xTup, xDic, tCB, tCall, tChain, tSl, tPart, tNoPart, rI, rI0, rU, rEq, rNe, scal, rXL, rXT, rXQ, rLenL, rLenT, rLenS, rLenQ, rInt1, rTupL, rLstL, rIsN, rNotN, rInT, rAddS, rLtS, rInS1, rNinS1, rIxS, rSlS, rStL, rCt, rSL, tApp, tPopAt, tPopL, tJoinL, tIndex, ixN0, ixN1, ixN2, ixN3, atI0, atI1, atI2, atI3, eqV_str, eqV_int, eqV_is, eqV_si, inV_nil, inV_cons, flatV, List.all_cons, List.all_nil, wd_eq, wd_ne0, wd_ne0', List.getElem?_cons_zero, List.getElem?_cons_succ, List.set_cons_zero, List.set_cons_succ, List.cons_append, List.nil_append, List.append_nil, Nat.reduceAdd, Nat.reduceLT, Option.some.injEq, V.int.injEq, V.str.injEq, V.bl.injEq, V.ref.injEq, HO.lst.injEq, HO.tup.injEq, HO.dK.injEq, List.cons.injEq, exists_eq_left, exists_eq_left', exists_eq_right, exists_eq_right', exists_and_left, exists_and_right, exists_const, exists_eq, exists_eq', and_assoc, true_and, and_true, false_and, and_false, true_or, or_true, false_or, or_false, reduceCtorEq, not_true_eq_false, not_false_eq_true, decide_true, decide_false, decide_eq_true_eq, decide_not, Bool.not_true, Bool.not_false, Bool.false_eq_true, Bool.true_and, Bool.and_true, Bool.false_and, Bool.and_false, Bool.true_or, Bool.or_true, Bool.false_or, Bool.or_false, if_true, if_false, ite_true, ite_false, Nat.reduceEqDiff, exists_false, eq_self, upd_same, Bool.not_eq_true', decide_eq_false_iff_not, kd_eq]
    cases x with
    | n i =>
      cases y with
      | n j =>
        simp only [tIfS, tRet, tRetN, tAsg, gName, gSub, gCons, gNil, gTup, tDrop, tNext, tVar, tC, tOp, tUn, tTest, tB, tAnd, tOr, tNot, tAndV, tOrV, tNotV, tIf, tCons, tNil, xLst, xTup, xDic, tCB, tCall, tChain, tSl, tPart, tNoPart, rI, rI0, rU, rEq, rNe, scal, rXL, rXT, rXQ, rLenL, rLenT, rLenS, rLenQ, rInt1, rTupL, rLstL, rIsN, rNotN, rInT, rAddS, rLtS, rInS1, rNinS1, rIxS, rSlS, rStL, rCt, rSL, tApp, tPopAt, tPopL, tJoinL, tIndex, ixN0, ixN1, ixN2, ixN3, atI0, atI1, atI2, atI3, eqV_str, eqV_int, eqV_is, eqV_si, inV_nil, inV_cons, flatV, List.all_cons, List.all_nil, wd_eq, wd_ne0, wd_ne0', List.getElem?_cons_zero, List.getElem?_cons_succ, List.set_cons_zero, List.set_cons_succ, List.cons_append, List.nil_append, List.append_nil, Nat.reduceAdd, Nat.reduceLT, Option.some.injEq, V.int.injEq, V.str.injEq, V.bl.injEq, V.ref.injEq, HO.lst.injEq, HO.tup.injEq, HO.dK.injEq, List.cons.injEq, exists_eq_left, exists_eq_left', exists_eq_right, exists_eq_right', exists_and_left, exists_and_right, exists_const, exists_eq, exists_eq', and_assoc, true_and, and_true, false_and, and_false, true_or, or_true, false_or, or_false, reduceCtorEq, not_true_eq_false, not_false_eq_true, decide_true, decide_false, decide_eq_true_eq, decide_not, Bool.not_true, Bool.not_false, Bool.false_eq_true, Bool.true_and, Bool.and_true, Bool.false_and, Bool.and_false, Bool.true_or, Bool.or_true, Bool.false_or, Bool.or_false, if_true, if_false, ite_true, ite_false, Nat.reduceEqDiff, exists_false, eq_self, upd_same, Bool.not_eq_true', decide_eq_false_iff_not]
        refine st_seq ?_
        simp only [tIfS, tRet, tRetN, tAsg, gName, gSub, gCons, gNil, gTup, tDrop, tNext, tVar, tC, tOp, tUn, tTest, tB, tAnd, tOr, tNot, tAndV, tOrV, tNotV, tIf, tCons, tNil, xLst, xTup, xDic, tCB, tCall, tChain, tSl, tPart, tNoPart, rI, rI0, rU, rEq, rNe, scal, rXL, rXT, rXQ, rLenL, rLenT, rLenS, rLenQ, rInt1, rTupL, rLstL, rIsN, rNotN, rInT, rAddS, rLtS, rInS1, rNinS1, rIxS, rSlS, rStL, rCt, rSL, tApp, tPopAt, tPopL, tJoinL, tIndex, ixN0, ixN1, ixN2, ixN3, atI0, atI1, atI2, atI3, eqV_str, eqV_int, eqV_is, eqV_si, inV_nil, inV_cons, flatV, List.all_cons, List.all_nil, wd_eq, wd_ne0, wd_ne0', List.getElem?_cons_zero, List.getElem?_cons_succ, List.set_cons_zero, List.set_cons_succ, List.cons_append, List.nil_append, List.append_nil, Nat.reduceAdd, Nat.reduceLT, Option.some.injEq, V.int.injEq, V.str.injEq, V.bl.injEq, V.ref.injEq, HO.lst.injEq, HO.tup.injEq, HO.dK.injEq, List.cons.injEq, exists_eq_left, exists_eq_left', exists_eq_right, exists_eq_right', exists_and_left, exists_and_right, exists_const, exists_eq, exists_eq', and_assoc, true_and, and_true, false_and, and_false, true_or, or_true, false_or, or_false, reduceCtorEq, not_true_eq_false, not_false_eq_true, decide_true, decide_false, decide_eq_true_eq, decide_not, Bool.not_true, Bool.not_false, Bool.false_eq_true, Bool.true_and, Bool.and_true, Bool.false_and, Bool.and_false, Bool.true_or, Bool.or_true, Bool.false_or, Bool.or_false, if_true, if_false, ite_true, ite_false, Nat.reduceEqDiff, exists_false, eq_self, upd_same, Bool.not_eq_true', decide_eq_false_iff_not]
        refine ⟨.n i, rfl, ?_⟩
        simp only [tIfS, tRet, tRetN, tAsg, gName, gSub, gCons, gNil, gTup, tDrop, tNext, tVar, tC, tOp, tUn, tTest, tB, tAnd, tOr, tNot, tAndV, tOrV, tNotV, tIf, tCons, tNil, xLst, xTup, xDic, tCB, tCall, tChain, tSl, tPart, tNoPart, rI, rI0, rU, rEq, rNe, scal, rXL, rXT, rXQ, rLenL, rLenT, rLenS, rLenQ, rInt1, rTupL, rLstL, rIsN, rNotN, rInT, rAddS, rLtS, rInS1, rNinS1, rIxS, rSlS, rStL, rCt, rSL, tApp, tPopAt, tPopL, tJoinL, tIndex, ixN0, ixN1, ixN2, ixN3, atI0, atI1, atI2, atI3, eqV_str, eqV_int, eqV_is, eqV_si, inV_nil, inV_cons, flatV, List.all_cons, List.all_nil, wd_eq, wd_ne0, wd_ne0', List.getElem?_cons_zero, List.getElem?_cons_succ, List.set_cons_zero, List.set_cons_succ, List.cons_append, List.nil_append, List.append_nil, Nat.reduceAdd, Nat.reduceLT, Option.some.injEq, V.int.injEq, V.str.injEq, V.bl.injEq, V.ref.injEq, HO.lst.injEq, HO.tup.injEq, HO.dK.injEq, List.cons.injEq, exists_eq_left, exists_eq_left', exists_eq_right, exists_eq_right', exists_and_left, exists_and_right, exists_const, exists_eq, exists_eq', and_assoc, true_and, and_true, false_and, and_false, true_or, or_true, false_or, or_false, reduceCtorEq, not_true_eq_false, not_false_eq_true, decide_true, decide_false, decide_eq_true_eq, decide_not, Bool.not_true, Bool.not_false, Bool.false_eq_true, Bool.true_and, Bool.and_true, Bool.false_and, Bool.and_false, Bool.true_or, Bool.or_true, Bool.false_or, Bool.or_false, if_true, if_false, ite_true, ite_false, Nat.reduceEqDiff, exists_false, eq_self, upd_same, Bool.not_eq_true', decide_eq_false_iff_not, Vl.kd]
        exact ⟨s, i, j, rfl, hs, k H (.refl _ _)⟩
      | t b =>
        simp only [tIfS, tRet, tRetN, tAsg, gName, gSub, gCons, gNil, gTup, tDrop, tNext, tVar, tC, tOp, tUn, tTest, tB, tAnd, tOr, tNot, tAndV, tOrV, tNotV, tIf, tCons, tNil, xLst, xTup, xDic, tCB, tCall, tChain, tSl, tPart, tNoPart, rI, rI0, rU, rEq, rNe, scal, rXL, rXT, rXQ, rLenL, rLenT, rLenS, rLenQ, rInt1, rTupL, rLstL, rIsN, rNotN, rInT, rAddS, rLtS, rInS1, rNinS1, rIxS, rSlS, rStL, rCt, rSL, tApp, tPopAt, tPopL, tJoinL, tIndex, ixN0, ixN1, ixN2, ixN3, atI0, atI1, atI2, atI3, eqV_str, eqV_int, eqV_is, eqV_si, inV_nil, inV_cons, flatV, List.all_cons, List.all_nil, wd_eq, wd_ne0, wd_ne0', List.getElem?_cons_zero, List.getElem?_cons_succ, List.set_cons_zero, List.set_cons_succ, List.cons_append, List.nil_append, List.append_nil, Nat.reduceAdd, Nat.reduceLT, Option.some.injEq, V.int.injEq, V.str.injEq, V.bl.injEq, V.ref.injEq, HO.lst.injEq, HO.tup.injEq, HO.dK.injEq, List.cons.injEq, exists_eq_left, exists_eq_left', exists_eq_right, exists_eq_right', exists_and_left, exists_and_right, exists_const, exists_eq, exists_eq', and_assoc, true_and, and_true, false_and, and_false, true_or, or_true, false_or, or_false, reduceCtorEq, not_true_eq_false, not_false_eq_true, decide_true, decide_false, decide_eq_true_eq, decide_not, Bool.not_true, Bool.not_false, Bool.false_eq_true, Bool.true_and, Bool.and_true, Bool.false_and, Bool.and_false, Bool.true_or, Bool.or_true, Bool.false_or, Bool.or_false, if_true, if_false, ite_true, ite_false, Nat.reduceEqDiff, exists_false, eq_self, upd_same, Bool.not_eq_true', decide_eq_false_iff_not]
        have k0 := k H (.refl _ _)
        cases s <;> first | exact absurd rfl hs | exact k0
    | t a =>
      cases y with
      | n j =>
        simp only [tIfS, tRet, tRetN, tAsg, gName, gSub, gCons, gNil, gTup, tDrop, tNext, tVar, tC, tOp, tUn, tTest, tB, tAnd, tOr, tNot, tAndV, tOrV, tNotV, tIf, tCons, tNil, xLst, xTup, xDic, tCB, tCall, tChain, tSl, tPart, tNoPart, rI, rI0, rU, rEq, rNe, scal, rXL, rXT, rXQ, rLenL, rLenT, rLenS, rLenQ, rInt1, rTupL, rLstL, rIsN, rNotN, rInT, rAddS, rLtS, rInS1, rNinS1, rIxS, rSlS, rStL, rCt, rSL, tApp, tPopAt, tPopL, tJoinL, tIndex, ixN0, ixN1, ixN2, ixN3, atI0, atI1, atI2, atI3, eqV_str, eqV_int, eqV_is, eqV_si, inV_nil, inV_cons, flatV, List.all_cons, List.all_nil, wd_eq, wd_ne0, wd_ne0', List.getElem?_cons_zero, List.getElem?_cons_succ, List.set_cons_zero, List.set_cons_succ, List.cons_append, List.nil_append, List.append_nil, Nat.reduceAdd, Nat.reduceLT, Option.some.injEq, V.int.injEq, V.str.injEq, V.bl.injEq, V.ref.injEq, HO.lst.injEq, HO.tup.injEq, HO.dK.injEq, List.cons.injEq, exists_eq_left, exists_eq_left', exists_eq_right, exists_eq_right', exists_and_left, exists_and_right, exists_const, exists_eq, exists_eq', and_assoc, true_and, and_true, false_and, and_false, true_or, or_true, false_or, or_false, reduceCtorEq, not_true_eq_false, not_false_eq_true, decide_true, decide_false, decide_eq_true_eq, decide_not, Bool.not_true, Bool.not_false, Bool.false_eq_true, Bool.true_and, Bool.and_true, Bool.false_and, Bool.and_false, Bool.true_or, Bool.or_true, Bool.false_or, Bool.or_false, if_true, if_false, ite_true, ite_false, Nat.reduceEqDiff, exists_false, eq_self, upd_same, Bool.not_eq_true', decide_eq_false_iff_not]
        have k0 := k H (.refl _ _)
        cases s <;> first | exact absurd rfl hs | exact k0
      | t b =>
        simp only [tIfS, tRet, tRetN, tAsg, gName, gSub, gCons, gNil, gTup, tDrop, tNext, tVar, tC, tOp, tUn, tTest, tB, tAnd, tOr, tNot, tAndV, tOrV, tNotV, tIf, tCons, tNil, xLst, xTup, xDic, tCB, tCall, tChain, tSl, tPart, tNoPart, rI, rI0, rU, rEq, rNe, scal, rXL, rXT, rXQ, rLenL, rLenT, rLenS, rLenQ, rInt1, rTupL, rLstL, rIsN, rNotN, rInT, rAddS, rLtS, rInS1, rNinS1, rIxS, rSlS, rStL, rCt, rSL, tApp, tPopAt, tPopL, tJoinL, tIndex, ixN0, ixN1, ixN2, ixN3, atI0, atI1, atI2, atI3, eqV_str, eqV_int, eqV_is, eqV_si, inV_nil, inV_cons, flatV, List.all_cons, List.all_nil, wd_eq, wd_ne0, wd_ne0', List.getElem?_cons_zero, List.getElem?_cons_succ, List.set_cons_zero, List.set_cons_succ, List.cons_append, List.nil_append, List.append_nil, Nat.reduceAdd, Nat.reduceLT, Option.some.injEq, V.int.injEq, V.str.injEq, V.bl.injEq, V.ref.injEq, HO.lst.injEq, HO.tup.injEq, HO.dK.injEq, List.cons.injEq, exists_eq_left, exists_eq_left', exists_eq_right, exists_eq_right', exists_and_left, exists_and_right, exists_const, exists_eq, exists_eq', and_assoc, true_and, and_true, false_and, and_false, true_or, or_true, false_or, or_false, reduceCtorEq, not_true_eq_false, not_false_eq_true, decide_true, decide_false, decide_eq_true_eq, decide_not, Bool.not_true, Bool.not_false, Bool.false_eq_true, Bool.true_and, Bool.and_true, Bool.false_and, Bool.and_false, Bool.true_or, Bool.or_true, Bool.false_or, Bool.or_false, if_true, if_false, ite_true, ite_false, Nat.reduceEqDiff, exists_false, eq_self, upd_same, Bool.not_eq_true', decide_eq_false_iff_not]
        refine st_seq ?_
        simp only [tIfS, tRet, tRetN, tAsg, gName, gSub, gCons, gNil, gTup, tDrop, tNext, tVar, tC, tOp, tUn, tTest, tB, tAnd, tOr, tNot, tAndV, tOrV, tNotV, tIf, tCons, tNil, xLst, xTup, xDic, tCB, tCall, tChain, tSl, tPart, tNoPart, rI, rI0, rU, rEq, rNe, scal, rXL, rXT, rXQ, rLenL, rLenT, rLenS, rLenQ, rInt1, rTupL, rLstL, rIsN, rNotN, rInT, rAddS, rLtS, rInS1, rNinS1, rIxS, rSlS, rStL, rCt, rSL, tApp, tPopAt, tPopL, tJoinL, tIndex, ixN0, ixN1, ixN2, ixN3, atI0, atI1, atI2, atI3, eqV_str, eqV_int, eqV_is, eqV_si, inV_nil, inV_cons, flatV, List.all_cons, List.all_nil, wd_eq, wd_ne0, wd_ne0', List.getElem?_cons_zero, List.getElem?_cons_succ, List.set_cons_zero, List.set_cons_succ, List.cons_append, List.nil_append, List.append_nil, Nat.reduceAdd, Nat.reduceLT, Option.some.injEq, V.int.injEq, V.str.injEq, V.bl.injEq, V.ref.injEq, HO.lst.injEq, HO.tup.injEq, HO.dK.injEq, List.cons.injEq, exists_eq_left, exists_eq_left', exists_eq_right, exists_eq_right', exists_and_left, exists_and_right, exists_const, exists_eq, exists_eq', and_assoc, true_and, and_true, false_and, and_false, true_or, or_true, false_or, or_false, reduceCtorEq, not_true_eq_false, not_false_eq_true, decide_true, decide_false, decide_eq_true_eq, decide_not, Bool.not_true, Bool.not_false, Bool.false_eq_true, Bool.true_and, Bool.and_true, Bool.false_and, Bool.and_false, Bool.true_or, Bool.or_true, Bool.false_or, Bool.or_false, if_true, if_false, ite_true, ite_false, Nat.reduceEqDiff, exists_false, eq_self, upd_same, Bool.not_eq_true', decide_eq_false_iff_not]
        refine ⟨.t a, rfl, ?_⟩
        simp only [tIfS, tRet, tRetN, tAsg, gName, gSub, gCons, gNil, gTup, tDrop, tNext, tVar, tC, tOp, tUn, tTest, tB, tAnd, tOr, tNot, tAndV, tOrV, tNotV, tIf, tCons, tNil, xLst, xTup, xDic, tCB, tCall, tChain, tSl, tPart, tNoPart, rI, rI0, rU, rEq, rNe, scal, rXL, rXT, rXQ, rLenL, rLenT, rLenS, rLenQ, rInt1, rTupL, rLstL, rIsN, rNotN, rInT, rAddS, rLtS, rInS1, rNinS1, rIxS, rSlS, rStL, rCt, rSL, tApp, tPopAt, tPopL, tJoinL, tIndex, ixN0, ixN1, ixN2, ixN3, atI0, atI1, atI2, atI3, eqV_str, eqV_int, eqV_is, eqV_si, inV_nil, inV_cons, flatV, List.all_cons, List.all_nil, wd_eq, wd_ne0, wd_ne0', List.getElem?_cons_zero, List.getElem?_cons_succ, List.set_cons_zero, List.set_cons_succ, List.cons_append, List.nil_append, List.append_nil, Nat.reduceAdd, Nat.reduceLT, Option.some.injEq, V.int.injEq, V.str.injEq, V.bl.injEq, V.ref.injEq, HO.lst.injEq, HO.tup.injEq, HO.dK.injEq, List.cons.injEq, exists_eq_left, exists_eq_left', exists_eq_right, exists_eq_right', exists_and_left, exists_and_right, exists_const, exists_eq, exists_eq', and_assoc, true_and, and_true, false_and, and_false, true_or, or_true, false_or, or_false, reduceCtorEq, not_true_eq_false, not_false_eq_true, decide_true, decide_false, decide_eq_true_eq, decide_not, Bool.not_true, Bool.not_false, Bool.false_eq_true, Bool.true_and, Bool.and_true, Bool.false_and, Bool.and_false, Bool.true_or, Bool.or_true, Bool.false_or, Bool.or_false, if_true, if_false, ite_true, ite_false, Nat.reduceEqDiff, exists_false, eq_self, upd_same, Bool.not_eq_true', decide_eq_false_iff_not, Vl.kd]
        exact ⟨s, a, b, rfl, hs, hx, hy, k⟩
theorem idx3 (s : Sg) (hs : s ≠ .same) : s.ix - 3 < 3 ∧ ∃ z, [V.str (wd 3), V.str (wd 4), V.str (wd 5)][s.ix - 3]? = some z ∧ eqV z (.str s.s) = true ∧
    ∀ (m : Nat) (z' : V), m < s.ix - 3 → [V.str (wd 3), V.str (wd 4), V.str (wd 5)][m]? = some z' → eqV z' (.str s.s) = false := by
  have ne : ∀ i j, i < 42 → j < 42 → i ≠ j → eqV (.str (wd i)) (.str (wd j)) = false := fun i j hi hj h => by rw [eqV_str]; exact decide_eq_false fun e => h (by rw [wd_eq hi hj] at e; exact e)
  have eq : ∀ i, eqV (.str (wd i)) (.str (wd i)) = true := fun i => by rw [eqV_str]; simp
  cases s with
  | add => exact ⟨by decide, _, rfl, eq 3, fun m z' h _ => absurd h (Nat.not_lt_zero _)⟩
  | sub =>
    refine ⟨by decide, _, rfl, eq 4, fun m z' h e => ?_⟩
    have hm : m = 0 := by simp only [Sg.ix] at h; omega
    subst hm
    cases e
    exact ne 3 4 (by decide) (by decide) (by decide)
  | less =>
    refine ⟨by decide, _, rfl, eq 5, fun m z' h e => ?_⟩
    have hm : m = 0 ∨ m = 1 := by simp only [Sg.ix] at h; omega
    rcases hm with hm | hm
    · subst hm
      cases e
      exact ne 3 5 (by decide) (by decide) (by decide)
    · subst hm
      cases e
      exact ne 4 5 (by decide) (by decide) (by decide)
  | same => exact absurd rfl hs
theorem rd_L_worked {K : PySem.W.Frag} {vs : List V} {H : Hp} {Q : VK} {E : XK} (h : sp_L_worked vs H Q E) : t_L_worked K { nx := fun _ H' => Q .non H', rt := Q } (start ["_", "_", "_", "_"] vs) H := by
  obtain ⟨s, x, y, rfl, hx, hy, k⟩ := h
  show t_L_worked K _ [some (.str s.s), some x.v, some y.v, none] H
  unfold t_L_worked
  refine st_seq ?_
  simp only [tIfS, tRet, tRetN, tAsg, gName, gSub, gCons, gNil, gTup, tDrop, tNext, tVar, tC, tOp, tUn, tTest, tB, tAnd, tOr, tNot, tAndV, tOrV, tNotV, tIf, tCons, tNil, xLst, xTup, xDic, tCB, tCall, tChain, tSl, tPart, tNoPart, rI, rI0, rU, rEq, rNe, scal, rXL, rXT, rXQ, rLenL, rLenT, rLenS, rLenQ, rInt1, rTupL, rLstL, rIsN, rNotN, rInT, rAddS, rLtS, rInS1, rNinS1, rIxS, rSlS, rStL, rCt, rSL, tApp, tPopAt, tPopL, tJoinL, tIndex, ixN0, ixN1, ixN2, ixN3, atI0, atI1, atI2, atI3, eqV_str, eqV_int, eqV_is, eqV_si, inV_nil, inV_cons, flatV, List.all_cons, List.all_nil, wd_eq, wd_ne0, wd_ne0', List.getElem?_cons_zero, List.getElem?_cons_succ, List.set_cons_zero, List.set_cons_succ, List.cons_append, List.nil_append, List.append_nil, Nat.reduceAdd, Nat.reduceLT, Option.some.injEq, V.int.injEq, V.str.injEq, V.bl.injEq, V.ref.injEq, HO.lst.injEq, HO.tup.injEq, HO.dK.injEq, List.cons.injEq, exists_eq_left, exists_eq_left', exists_eq_right, exists_eq_right', exists_and_left, exists_and_right, exists_const, exists_eq, exists_eq', and_assoc, true_and, and_true, false_and, and_false, true_or, or_true, false_or, or_false, reduceCtorEq, not_true_eq_false, not_false_eq_true, decide_true, decide_false, decide_eq_true_eq, decide_not, Bool.not_true, Bool.not_false, Bool.false_eq_true, Bool.true_and, Bool.and_true, Bool.false_and, Bool.and_false, Bool.true_or, Bool.or_true, Bool.false_or, Bool.or_false, if_true, if_false, ite_true, ite_false, Nat.reduceEqDiff, exists_false, eq_self, upd_same, Bool.not_eq_true', decide_eq_false_iff_not, is_str]
  refine st_seq ?_
  simp only [tIfS, tRet, tRetN, tAsg, gName, gSub, gCons, gNil, gTup, tDrop, tNext, tVar, tC, tOp, tUn, tTest, tB, tAnd, tOr, tNot, tAndV, tOrV, tNotV, tIf, tCons, tNil, xLst, xTup, xDic, tCB, tCall, tChain, tSl, tPart, tNoPart, rI, rI0, rU, rEq, rNe, scal, rXL, rXT, rXQ, rLenL, rLenT, rLenS, rLenQ, rInt1, rTupL, rLstL, rIsN, rNotN, rInT, rAddS, rLtS, rInS1, rNinS1, rIxS, rSlS, rStL, rCt, rSL, tApp, tPopAt, tPopL, tJoinL, tIndex, ixN0, ixN1, ixN2, ixN3, atI0, atI1, atI2, atI3, eqV_str, eqV_int, eqV_is, eqV_si, inV_nil, inV_cons, flatV, List.all_cons, List.all_nil, wd_eq, wd_ne0, wd_ne0', List.getElem?_cons_zero, List.getElem?_cons_succ, List.set_cons_zero, List.set_cons_succ, List.cons_append, List.nil_append, List.append_nil, Nat.reduceAdd, Nat.reduceLT, Option.some.injEq, V.int.injEq, V.str.injEq, V.bl.injEq, V.ref.injEq, HO.lst.injEq, HO.tup.injEq, HO.dK.injEq, List.cons.injEq, exists_eq_left, exists_eq_left', exists_eq_right, exists_eq_right', exists_and_left, exists_and_right, exists_const, exists_eq, exists_eq', and_assoc, true_and, and_true, false_and, and_false, true_or, or_true, false_or, or_false, reduceCtorEq, not_true_eq_false, not_false_eq_true, decide_true, decide_false, decide_eq_true_eq, decide_not, Bool.not_true, Bool.not_false, Bool.false_eq_true, Bool.true_and, Bool.and_true, Bool.false_and, Bool.and_false, Bool.true_or, Bool.or_true, Bool.false_or, Bool.or_false, if_true, if_false, ite_true, ite_false, Nat.reduceEqDiff, exists_false, eq_self, upd_same, Bool.not_eq_true', decide_eq_false_iff_not, sg_eq]
  by_cases hs : s = .same
  · subst hs
    simp only [Sg.ix]
    have k0 := k H (.refl _ _)
    simp only [tIfS, tRet, tRetN, tAsg, gName, gSub, gCons, gNil, gTup, tDrop, tNext, tVar, tC, tOp, tUn, tTest, tB, tAnd, tOr, tNot, tAndV, tOrV, tNotV, tIf, tCons, tNil, xLst, xTup, xDic, tCB, tCall, tChain, tSl, tPart, tNoPart, rI, rI0, rU, rEq, rNe, scal, rXL, rXT, rXQ, rLenL, rLenT, rLenS, rLenQ, rInt1, rTupL, rLstL, rIsN, rNotN, rInT, rAddS, rLtS, rInS1, rNinS1, rIxS, rSlS, rStL, rCt, rSL, tApp, tPopAt, tPopL, tJoinL, tIndex, ixN0, ixN1, ixN2, ixN3, atI0, atI1, atI2, atI3, eqV_str, eqV_int, eqV_is, eqV_si, inV_nil, inV_cons, flatV, List.all_cons, List.all_nil, wd_eq, wd_ne0, wd_ne0', List.getElem?_cons_zero, List.getElem?_cons_succ, List.set_cons_zero, List.set_cons_succ, List.cons_append, List.nil_append, List.append_nil, Nat.reduceAdd, Nat.reduceLT, Option.some.injEq, V.int.injEq, V.str.injEq, V.bl.injEq, V.ref.injEq, HO.lst.injEq, HO.tup.injEq, HO.dK.injEq, List.cons.injEq, exists_eq_left, exists_eq_left', exists_eq_right, exists_eq_right', exists_and_left, exists_and_right, exists_const, exists_eq, exists_eq', and_assoc, true_and, and_true, false_and, and_false, true_or, or_true, false_or, or_false, reduceCtorEq, not_true_eq_false, not_false_eq_true, decide_true, decide_false, decide_eq_true_eq, decide_not, Bool.not_true, Bool.not_false, Bool.false_eq_true, Bool.true_and, Bool.and_true, Bool.false_and, Bool.and_false, Bool.true_or, Bool.or_true, Bool.false_or, Bool.or_false, if_true, if_false, ite_true, ite_false, Nat.reduceEqDiff, exists_false, eq_self, upd_same, Bool.not_eq_true', decide_eq_false_iff_not, scal_v, Vl.v_inj]
    cases x <;> cases y <;> simp_all [ov, wk, b2n, Vl.v]
  · have e : ¬ s.ix = 6 := by cases s <;> simp_all [Sg.ix]
    rw [if_neg e]
    refine st_seq ?_
    cases x with
    | n i =>
      cases y with
      | n j =>
        simp only [tIfS, tRet, tRetN, tAsg, gName, gSub, gCons, gNil, gTup, tDrop, tNext, tVar, tC, tOp, tUn, tTest, tB, tAnd, tOr, tNot, tAndV, tOrV, tNotV, tIf, tCons, tNil, xLst, xTup, xDic, tCB, tCall, tChain, tSl, tPart, tNoPart, rI, rI0, rU, rEq, rNe, scal, rXL, rXT, rXQ, rLenL, rLenT, rLenS, rLenQ, rInt1, rTupL, rLstL, rIsN, rNotN, rInT, rAddS, rLtS, rInS1, rNinS1, rIxS, rSlS, rStL, rCt, rSL, tApp, tPopAt, tPopL, tJoinL, tIndex, ixN0, ixN1, ixN2, ixN3, atI0, atI1, atI2, atI3, eqV_str, eqV_int, eqV_is, eqV_si, inV_nil, inV_cons, flatV, List.all_cons, List.all_nil, wd_eq, wd_ne0, wd_ne0', List.getElem?_cons_zero, List.getElem?_cons_succ, List.set_cons_zero, List.set_cons_succ, List.cons_append, List.nil_append, List.append_nil, Nat.reduceAdd, Nat.reduceLT, Option.some.injEq, V.int.injEq, V.str.injEq, V.bl.injEq, V.ref.injEq, HO.lst.injEq, HO.tup.injEq, HO.dK.injEq, List.cons.injEq, exists_eq_left, exists_eq_left', exists_eq_right, exists_eq_right', exists_and_left, exists_and_right, exists_const, exists_eq, exists_eq', and_assoc, true_and, and_true, false_and, and_false, true_or, or_true, false_or, or_false, reduceCtorEq, not_true_eq_false, not_false_eq_true, decide_true, decide_false, decide_eq_true_eq, decide_not, Bool.not_true, Bool.not_false, Bool.false_eq_true, Bool.true_and, Bool.and_true, Bool.false_and, Bool.and_false, Bool.true_or, Bool.or_true, Bool.false_or, Bool.or_false, if_true, if_false, ite_true, ite_false, Nat.reduceEqDiff, exists_false, eq_self, upd_same, Bool.not_eq_true', decide_eq_false_iff_not]
        refine st_seq ?_
        simp only [tIfS, tRet, tRetN, tAsg, gName, gSub, gCons, gNil, gTup, tDrop, tNext, tVar, tC, tOp, tUn, tTest, tB, tAnd, tOr, tNot, tAndV, tOrV, tNotV, tIf, tCons, tNil, xLst, xTup, xDic, tCB, tCall, tChain, tSl, tPart, tNoPart, rI, rI0, rU, rEq, rNe, scal, rXL, rXT, rXQ, rLenL, rLenT, rLenS, rLenQ, rInt1, rTupL, rLstL, rIsN, rNotN, rInT, rAddS, rLtS, rInS1, rNinS1, rIxS, rSlS, rStL, rCt, rSL, tApp, tPopAt, tPopL, tJoinL, tIndex, ixN0, ixN1, ixN2, ixN3, atI0, atI1, atI2, atI3, eqV_str, eqV_int, eqV_is, eqV_si, inV_nil, inV_cons, flatV, List.all_cons, List.all_nil, wd_eq, wd_ne0, wd_ne0', List.getElem?_cons_zero, List.getElem?_cons_succ, List.set_cons_zero, List.set_cons_succ, List.cons_append, List.nil_append, List.append_nil, Nat.reduceAdd, Nat.reduceLT, Option.some.injEq, V.int.injEq, V.str.injEq, V.bl.injEq, V.ref.injEq, HO.lst.injEq, HO.tup.injEq, HO.dK.injEq, List.cons.injEq, exists_eq_left, exists_eq_left', exists_eq_right, exists_eq_right', exists_and_left, exists_and_right, exists_const, exists_eq, exists_eq', and_assoc, true_and, and_true, false_and, and_false, true_or, or_true, false_or, or_false, reduceCtorEq, not_true_eq_false, not_false_eq_true, decide_true, decide_false, decide_eq_true_eq, decide_not, Bool.not_true, Bool.not_false, Bool.false_eq_true, Bool.true_and, Bool.and_true, Bool.false_and, Bool.and_false, Bool.true_or, Bool.or_true, Bool.false_or, Bool.or_false, if_true, if_false, ite_true, ite_false, Nat.reduceEqDiff, exists_false, eq_self, upd_same, Bool.not_eq_true', decide_eq_false_iff_not, is_str]
        simp only [tIfS, tRet, tRetN, tAsg, gName, gSub, gCons, gNil, gTup, tDrop, tNext, tVar, tC, tOp, tUn, tTest, tB, tAnd, tOr, tNot, tAndV, tOrV, tNotV, tIf, tCons, tNil, xLst, xTup, xDic, tCB, tCall, tChain, tSl, tPart, tNoPart, rI, rI0, rU, rEq, rNe, scal, rXL, rXT, rXQ, rLenL, rLenT, rLenS, rLenQ, rInt1, rTupL, rLstL, rIsN, rNotN, rInT, rAddS, rLtS, rInS1, rNinS1, rIxS, rSlS, rStL, rCt, rSL, tApp, tPopAt, tPopL, tJoinL, tIndex, ixN0, ixN1, ixN2, ixN3, atI0, atI1, atI2, atI3, eqV_str, eqV_int, eqV_is, eqV_si, inV_nil, inV_cons, flatV, List.all_cons, List.all_nil, wd_eq, wd_ne0, wd_ne0', List.getElem?_cons_zero, List.getElem?_cons_succ, List.set_cons_zero, List.set_cons_succ, List.cons_append, List.nil_append, List.append_nil, Nat.reduceAdd, Nat.reduceLT, Option.some.injEq, V.int.injEq, V.str.injEq, V.bl.injEq, V.ref.injEq, HO.lst.injEq, HO.tup.injEq, HO.dK.injEq, List.cons.injEq, exists_eq_left, exists_eq_left', exists_eq_right, exists_eq_right', exists_and_left, exists_and_right, exists_const, exists_eq, exists_eq', and_assoc, true_and, and_true, false_and, and_false, true_or, or_true, false_or, or_false, reduceCtorEq, not_true_eq_false, not_false_eq_true, decide_true, decide_false, decide_eq_true_eq, decide_not, Bool.not_true, Bool.not_false, Bool.false_eq_true, Bool.true_and, Bool.and_true, Bool.false_and, Bool.and_false, Bool.true_or, Bool.or_true, Bool.false_or, Bool.or_false, if_true, if_false, ite_true, ite_false, Nat.reduceEqDiff, exists_false, eq_self, upd_same, Bool.not_eq_true', decide_eq_false_iff_not, Vl.v]
        refine ⟨by decide, by decide, (by simp only [List.length_cons, List.length_nil]; decide), fun p H1 A => ⟨(by simp only [List.length_cons, List.length_nil]; decide), fun q H2 B => ?_⟩⟩
        have k0 := k H2 (A.fr.al B)
        simp only [tIfS, tRet, tRetN, tAsg, gName, gSub, gCons, gNil, gTup, tDrop, tNext, tVar, tC, tOp, tUn, tTest, tB, tAnd, tOr, tNot, tAndV, tOrV, tNotV, tIf, tCons, tNil, xLst, xTup, xDic, tCB, tCall, tChain, tSl, tPart, tNoPart, rI, rI0, rU, rEq, rNe, scal, rXL, rXT, rXQ, rLenL, rLenT, rLenS, rLenQ, rInt1, rTupL, rLstL, rIsN, rNotN, rInT, rAddS, rLtS, rInS1, rNinS1, rIxS, rSlS, rStL, rCt, rSL, tApp, tPopAt, tPopL, tJoinL, tIndex, ixN0, ixN1, ixN2, ixN3, atI0, atI1, atI2, atI3, eqV_str, eqV_int, eqV_is, eqV_si, inV_nil, inV_cons, flatV, List.all_cons, List.all_nil, wd_eq, wd_ne0, wd_ne0', List.getElem?_cons_zero, List.getElem?_cons_succ, List.set_cons_zero, List.set_cons_succ, List.cons_append, List.nil_append, List.append_nil, Nat.reduceAdd, Nat.reduceLT, Option.some.injEq, V.int.injEq, V.str.injEq, V.bl.injEq, V.ref.injEq, HO.lst.injEq, HO.tup.injEq, HO.dK.injEq, List.cons.injEq, exists_eq_left, exists_eq_left', exists_eq_right, exists_eq_right', exists_and_left, exists_and_right, exists_const, exists_eq, exists_eq', and_assoc, true_and, and_true, false_and, and_false, true_or, or_true, false_or, or_false, reduceCtorEq, not_true_eq_false, not_false_eq_true, decide_true, decide_false, decide_eq_true_eq, decide_not, Bool.not_true, Bool.not_false, Bool.false_eq_true, Bool.true_and, Bool.and_true, Bool.false_and, Bool.and_false, Bool.true_or, Bool.or_true, Bool.false_or, Bool.or_false, if_true, if_false, ite_true, ite_false, Nat.reduceEqDiff, exists_false, eq_self, upd_same, Bool.not_eq_true', decide_eq_false_iff_not, B.at_]
        obtain ⟨hj, z, h1, h2, h3⟩ := idx3 s hs
        refine ⟨s.ix - 3, z, h1, h2, h3, ?_⟩
        simp only [tIfS, tRet, tRetN, tAsg, gName, gSub, gCons, gNil, gTup, tDrop, tNext, tVar, tC, tOp, tUn, tTest, tB, tAnd, tOr, tNot, tAndV, tOrV, tNotV, tIf, tCons, tNil, xLst, xTup, xDic, tCB, tCall, tChain, tSl, tPart, tNoPart, rI, rI0, rU, rEq, rNe, scal, rXL, rXT, rXQ, rLenL, rLenT, rLenS, rLenQ, rInt1, rTupL, rLstL, rIsN, rNotN, rInT, rAddS, rLtS, rInS1, rNinS1, rIxS, rSlS, rStL, rCt, rSL, tApp, tPopAt, tPopL, tJoinL, tIndex, ixN0, ixN1, ixN2, ixN3, atI0, atI1, atI2, atI3, eqV_str, eqV_int, eqV_is, eqV_si, inV_nil, inV_cons, flatV, List.all_cons, List.all_nil, wd_eq, wd_ne0, wd_ne0', List.getElem?_cons_zero, List.getElem?_cons_succ, List.set_cons_zero, List.set_cons_succ, List.cons_append, List.nil_append, List.append_nil, Nat.reduceAdd, Nat.reduceLT, Option.some.injEq, V.int.injEq, V.str.injEq, V.bl.injEq, V.ref.injEq, HO.lst.injEq, HO.tup.injEq, HO.dK.injEq, List.cons.injEq, exists_eq_left, exists_eq_left', exists_eq_right, exists_eq_right', exists_and_left, exists_and_right, exists_const, exists_eq, exists_eq', and_assoc, true_and, and_true, false_and, and_false, true_or, or_true, false_or, or_false, reduceCtorEq, not_true_eq_false, not_false_eq_true, decide_true, decide_false, decide_eq_true_eq, decide_not, Bool.not_true, Bool.not_false, Bool.false_eq_true, Bool.true_and, Bool.and_true, Bool.false_and, Bool.and_false, Bool.true_or, Bool.or_true, Bool.false_or, Bool.or_false, if_true, if_false, ite_true, ite_false, Nat.reduceEqDiff, exists_false, eq_self, upd_same, Bool.not_eq_true', decide_eq_false_iff_not, B.k A.at_]
        cases s with
        | add => exact ⟨_, atI0 _ _, k0⟩
        | sub => exact ⟨_, atI1 _ _ _, k0⟩
        | less => refine ⟨_, atI2 _ _ _ _, ?_⟩; simpa [ov, wk, Vl.v, b2n] using k0
        | same => exact absurd rfl hs
      | t b =>
        simp only [tIfS, tRet, tRetN, tAsg, gName, gSub, gCons, gNil, gTup, tDrop, tNext, tVar, tC, tOp, tUn, tTest, tB, tAnd, tOr, tNot, tAndV, tOrV, tNotV, tIf, tCons, tNil, xLst, xTup, xDic, tCB, tCall, tChain, tSl, tPart, tNoPart, rI, rI0, rU, rEq, rNe, scal, rXL, rXT, rXQ, rLenL, rLenT, rLenS, rLenQ, rInt1, rTupL, rLstL, rIsN, rNotN, rInT, rAddS, rLtS, rInS1, rNinS1, rIxS, rSlS, rStL, rCt, rSL, tApp, tPopAt, tPopL, tJoinL, tIndex, ixN0, ixN1, ixN2, ixN3, atI0, atI1, atI2, atI3, eqV_str, eqV_int, eqV_is, eqV_si, inV_nil, inV_cons, flatV, List.all_cons, List.all_nil, wd_eq, wd_ne0, wd_ne0', List.getElem?_cons_zero, List.getElem?_cons_succ, List.set_cons_zero, List.set_cons_succ, List.cons_append, List.nil_append, List.append_nil, Nat.reduceAdd, Nat.reduceLT, Option.some.injEq, V.int.injEq, V.str.injEq, V.bl.injEq, V.ref.injEq, HO.lst.injEq, HO.tup.injEq, HO.dK.injEq, List.cons.injEq, exists_eq_left, exists_eq_left', exists_eq_right, exists_eq_right', exists_and_left, exists_and_right, exists_const, exists_eq, exists_eq', and_assoc, true_and, and_true, false_and, and_false, true_or, or_true, false_or, or_false, reduceCtorEq, not_true_eq_false, not_false_eq_true, decide_true, decide_false, decide_eq_true_eq, decide_not, Bool.not_true, Bool.not_false, Bool.false_eq_true, Bool.true_and, Bool.and_true, Bool.false_and, Bool.and_false, Bool.true_or, Bool.or_true, Bool.false_or, Bool.or_false, if_true, if_false, ite_true, ite_false, Nat.reduceEqDiff, exists_false, eq_self, upd_same, Bool.not_eq_true', decide_eq_false_iff_not]
        have k0 := k H (.refl _ _)
        cases s <;> first | exact absurd rfl hs | exact k0
    | t a =>
      cases y with
      | n j =>
        simp only [tIfS, tRet, tRetN, tAsg, gName, gSub, gCons, gNil, gTup, tDrop, tNext, tVar, tC, tOp, tUn, tTest, tB, tAnd, tOr, tNot, tAndV, tOrV, tNotV, tIf, tCons, tNil, xLst, xTup, xDic, tCB, tCall, tChain, tSl, tPart, tNoPart, rI, rI0, rU, rEq, rNe, scal, rXL, rXT, rXQ, rLenL, rLenT, rLenS, rLenQ, rInt1, rTupL, rLstL, rIsN, rNotN, rInT, rAddS, rLtS, rInS1, rNinS1, rIxS, rSlS, rStL, rCt, rSL, tApp, tPopAt, tPopL, tJoinL, tIndex, ixN0, ixN1, ixN2, ixN3, atI0, atI1, atI2, atI3, eqV_str, eqV_int, eqV_is, eqV_si, inV_nil, inV_cons, flatV, List.all_cons, List.all_nil, wd_eq, wd_ne0, wd_ne0', List.getElem?_cons_zero, List.getElem?_cons_succ, List.set_cons_zero, List.set_cons_succ, List.cons_append, List.nil_append, List.append_nil, Nat.reduceAdd, Nat.reduceLT, Option.some.injEq, V.int.injEq, V.str.injEq, V.bl.injEq, V.ref.injEq, HO.lst.injEq, HO.tup.injEq, HO.dK.injEq, List.cons.injEq, exists_eq_left, exists_eq_left', exists_eq_right, exists_eq_right', exists_and_left, exists_and_right, exists_const, exists_eq, exists_eq', and_assoc, true_and, and_true, false_and, and_false, true_or, or_true, false_or, or_false, reduceCtorEq, not_true_eq_false, not_false_eq_true, decide_true, decide_false, decide_eq_true_eq, decide_not, Bool.not_true, Bool.not_false, Bool.false_eq_true, Bool.true_and, Bool.and_true, Bool.false_and, Bool.and_false, Bool.true_or, Bool.or_true, Bool.false_or, Bool.or_false, if_true, if_false, ite_true, ite_false, Nat.reduceEqDiff, exists_false, eq_self, upd_same, Bool.not_eq_true', decide_eq_false_iff_not]
        have k0 := k H (.refl _ _)
        cases s <;> first | exact absurd rfl hs | exact k0
      | t b =>
        simp only [tIfS, tRet, tRetN, tAsg, gName, gSub, gCons, gNil, gTup, tDrop, tNext, tVar, tC, tOp, tUn, tTest, tB, tAnd, tOr, tNot, tAndV, tOrV, tNotV, tIf, tCons, tNil, xLst, xTup, xDic, tCB, tCall, tChain, tSl, tPart, tNoPart, rI, rI0, rU, rEq, rNe, scal, rXL, rXT, rXQ, rLenL, rLenT, rLenS, rLenQ, rInt1, rTupL, rLstL, rIsN, rNotN, rInT, rAddS, rLtS, rInS1, rNinS1, rIxS, rSlS, rStL, rCt, rSL, tApp, tPopAt, tPopL, tJoinL, tIndex, ixN0, ixN1, ixN2, ixN3, atI0, atI1, atI2, atI3, eqV_str, eqV_int, eqV_is, eqV_si, inV_nil, inV_cons, flatV, List.all_cons, List.all_nil, wd_eq, wd_ne0, wd_ne0', List.getElem?_cons_zero, List.getElem?_cons_succ, List.set_cons_zero, List.set_cons_succ, List.cons_append, List.nil_append, List.append_nil, Nat.reduceAdd, Nat.reduceLT, Option.some.injEq, V.int.injEq, V.str.injEq, V.bl.injEq, V.ref.injEq, HO.lst.injEq, HO.tup.injEq, HO.dK.injEq, List.cons.injEq, exists_eq_left, exists_eq_left', exists_eq_right, exists_eq_right', exists_and_left, exists_and_right, exists_const, exists_eq, exists_eq', and_assoc, true_and, and_true, false_and, and_false, true_or, or_true, false_or, or_false, reduceCtorEq, not_true_eq_false, not_false_eq_true, decide_true, decide_false, decide_eq_true_eq, decide_not, Bool.not_true, Bool.not_false, Bool.false_eq_true, Bool.true_and, Bool.and_true, Bool.false_and, Bool.and_false, Bool.true_or, Bool.or_true, Bool.false_or, Bool.or_false, if_true, if_false, ite_true, ite_false, Nat.reduceEqDiff, exists_false, eq_self, upd_same, Bool.not_eq_true', decide_eq_false_iff_not]
        refine st_seq ?_
        simp only [tIfS, tRet, tRetN, tAsg, gName, gSub, gCons, gNil, gTup, tDrop, tNext, tVar, tC, tOp, tUn, tTest, tB, tAnd, tOr, tNot, tAndV, tOrV, tNotV, tIf, tCons, tNil, xLst, xTup, xDic, tCB, tCall, tChain, tSl, tPart, tNoPart, rI, rI0, rU, rEq, rNe, scal, rXL, rXT, rXQ, rLenL, rLenT, rLenS, rLenQ, rInt1, rTupL, rLstL, rIsN, rNotN, rInT, rAddS, rLtS, rInS1, rNinS1, rIxS, rSlS, rStL, rCt, rSL, tApp, tPopAt, tPopL, tJoinL, tIndex, ixN0, ixN1, ixN2, ixN3, atI0, atI1, atI2, atI3, eqV_str, eqV_int, eqV_is, eqV_si, inV_nil, inV_cons, flatV, List.all_cons, List.all_nil, wd_eq, wd_ne0, wd_ne0', List.getElem?_cons_zero, List.getElem?_cons_succ, List.set_cons_zero, List.set_cons_succ, List.cons_append, List.nil_append, List.append_nil, Nat.reduceAdd, Nat.reduceLT, Option.some.injEq, V.int.injEq, V.str.injEq, V.bl.injEq, V.ref.injEq, HO.lst.injEq, HO.tup.injEq, HO.dK.injEq, List.cons.injEq, exists_eq_left, exists_eq_left', exists_eq_right, exists_eq_right', exists_and_left, exists_and_right, exists_const, exists_eq, exists_eq', and_assoc, true_and, and_true, false_and, and_false, true_or, or_true, false_or, or_false, reduceCtorEq, not_true_eq_false, not_false_eq_true, decide_true, decide_false, decide_eq_true_eq, decide_not, Bool.not_true, Bool.not_false, Bool.false_eq_true, Bool.true_and, Bool.and_true, Bool.false_and, Bool.and_false, Bool.true_or, Bool.or_true, Bool.false_or, Bool.or_false, if_true, if_false, ite_true, ite_false, Nat.reduceEqDiff, exists_false, eq_self, upd_same, Bool.not_eq_true', decide_eq_false_iff_not, is_str]
        exact ⟨s, a, b, rfl, hs, hx, hy, k⟩
end Hn

namespace Hn
open PySem PySem.Spec PyProof.Rows L2
/-- _law_text from 1 -/
def t_L_text_1 (K : PySem.W.Frag) : TS :=
  (tSeq (tAsg (tOp rXL (xLst (tCons (tCall sp_L_take [] E0 (tCons (tVar 0) (tCons (tC (.int 3)) tNil))) (tCons (tCall sp_L_take [] E0 (tCons (tVar 0) (tCons (tC (.int 13)) tNil))) tNil))) (tCB rInt1 (tCons (tOp rEq (tCall sp_L_take [] E0 (tCons (tVar 0) (tCons (tC (.int 8)) tNil))) (tC (.int 1))) tNil))) (gName 2))
    (tRet (tJoinL (tC (.str ("" : Str))) (tLc (iRng1 (tCons (tVar 2) tNil)) (gName 3) tYes (tOp rIxS (tVar 1) (tCall sp_L_take [] E0 (tCons (tVar 0) (tCons (tCB rLenS (tCons (tVar 1) tNil)) tNil)))) [3]))))

/-- _law_text -/
def t_L_text (K : PySem.W.Frag) : TS :=
  tSeq (tAsg (tOp rXL (xLst (tCons (tC (.str ("abz" : Str))) (tCons (tC (.str ("abcdefghijklmnopqrstuvwxyz" : Str))) tNil))) (tCall sp_L_take [] E0 (tCons (tVar 0) (tCons (tC (.int 2)) tNil)))) (gName 1)) (t_L_text_1 K)

/-- of_texts from 1 -/
def t_of_texts_1 (K : PySem.W.Frag) : TS :=
  (tSeq (tIfS (tTest (tOp rEq (tVar 0) (tC (.str (wd 4))))) (tRet (tJoinL (tC (.str ("" : Str))) (tLc (iStr (tVar 1)) (gName 3) (tTest (tOp rNinS1 (tVar 3) (tVar 2))) (tVar 3) [3]))) tNext)
    (tRet (tCB rInt1 (tCons (tOp rLtS (tVar 1) (tVar 2)) tNil))))

/-- of_texts -/
def t_of_texts (K : PySem.W.Frag) : TS :=
  tSeq (tIfS (tTest (tOp rEq (tVar 0) (tC (.str (wd 3))))) (tRet (tSl rSlS (tOp rAddS (tVar 1) (tVar 2)) tNoPart (tPart (tC (.int 12))))) tNext) (t_of_texts_1 K)

/-- _law_of_texts from 1 -/
def t_L_of_texts_1 (K : PySem.W.Frag) : TS :=
  (tSeq (tIfS (tTest (tOp rEq (tVar 0) (tC (.str (wd 5))))) (tRet (tCB rInt1 (tCons (tOp rLtS (tVar 1) (tVar 2)) tNil))) tNext)
    (tRet (tJoinL (tC (.str ("" : Str))) (tLc (iStr (tVar 1)) (gName 3) (tTest (tOp rNinS1 (tVar 3) (tVar 2))) (tVar 3) [3]))))

/-- _law_of_texts -/
def t_L_of_texts (K : PySem.W.Frag) : TS :=
  tSeq (tIfS (tTest (tOp rEq (tVar 0) (tC (.str (wd 3))))) (tRet (tSl rSlS (tOp rAddS (tVar 1) (tVar 2)) tNoPart (tPart (tC (.int 12))))) tNext) (t_L_of_texts_1 K)

/-- _law_script -/
def t_L_script (K : PySem.W.Frag) : TS :=
  (tSeq (tAsg (tOp (rI (fun _ j => 0 < j) fun i j => .int (i % j)) (tCB (rSum K) (tCons (tLc (iEnum K (tCons (tVar 0) tNil)) (gTup K 2 (gCons (gName 2) (gCons (gName 3) gNil))) tYes (tOp (rI CMul fun i j => .int (i * j)) (tOp (rI0 fun i j => .int (i + j)) (tVar 2) (tC (.int 1))) (tOp (rI (fun _ j => 0 < j) fun i j => .int (i % j)) (tVar 3) (tC (.int 69621)))) [2, 3]) tNil)) (tC (.int 2147483647))) (gName 1))
    (tRet (xLst (tCons (tCB (rLstK K) (tCons (tVar 0) tNil)) (tCons (tOp (rI CMul fun i j => .int (i * j)) (tVar 1) (tCB rInt1 (tCons (tOp (rI0 fun i j => .bl (decide (j < i))) (tCB (rLenK K) (tCons (tVar 0) tNil)) (tC (.int 2))) tNil))) tNil)))))

theorem rd_L_value {K : PySem.W.Frag} {vs : List V} {H : Hp} {Q : VK} {E : XK} (h : sp_L_value vs H Q E) : t_L_value K { nx := fun _ H' => Q .non H', rt := Q } (start ["_"] vs) H := by
  obtain ⟨b, l, rfl, B, k⟩ := h
  show t_L_value K _ [some (.ref b)] H
  unfold t_L_value
  refine st_seq ?_
  simp only [tIfS, tRet, tRetN, tAsg, gName, gSub, gCons, gNil, gTup, tDrop, tNext, tVar, tC, tOp, tUn, tTest, tB, tAnd, tOr, tNot, tAndV, tOrV, tNotV, tIf, tCons, tNil, xLst, xTup, xDic, tCB, tCall, tChain, tSl, tPart, tNoPart, rI, rI0, rU, rEq, rNe, scal, rXL, rXT, rXQ, rLenL, rLenT, rLenS, rLenQ, rInt1, rTupL, rLstL, rIsN, rNotN, rInT, rAddS, rLtS, rInS1, rNinS1, rIxS, rSlS, rStL, rCt, rSL, tApp, tPopAt, tPopL, tJoinL, tIndex, ixN0, ixN1, ixN2, ixN3, atI0, atI1, atI2, atI3, eqV_str, eqV_int, eqV_is, eqV_si, inV_nil, inV_cons, flatV, List.all_cons, List.all_nil, wd_eq, wd_ne0, wd_ne0', List.getElem?_cons_zero, List.getElem?_cons_succ, List.set_cons_zero, List.set_cons_succ, List.cons_append, List.nil_append, List.append_nil, Nat.reduceAdd, Nat.reduceLT, Option.some.injEq, V.int.injEq, V.str.injEq, V.bl.injEq, V.ref.injEq, HO.lst.injEq, HO.tup.injEq, HO.dK.injEq, List.cons.injEq, exists_eq_left, exists_eq_left', exists_eq_right, exists_eq_right', exists_and_left, exists_and_right, exists_const, exists_eq, exists_eq', and_assoc, true_and, and_true, false_and, and_false, true_or, or_true, false_or, or_false, reduceCtorEq, not_true_eq_false, not_false_eq_true, decide_true, decide_false, decide_eq_true_eq, decide_not, Bool.not_true, Bool.not_false, Bool.false_eq_true, Bool.true_and, Bool.and_true, Bool.false_and, Bool.and_false, Bool.true_or, Bool.or_true, Bool.false_or, Bool.or_false, if_true, if_false, ite_true, ite_false, Nat.reduceEqDiff, exists_false, eq_self, upd_same, Bool.not_eq_true', decide_eq_false_iff_not]
  refine ⟨b, l, 3, rfl, B, by decide, by decide, fun r H1 r0 r1 B1 f1 => ?_⟩
  simp only [tIfS, tRet, tRetN, tAsg, gName, gSub, gCons, gNil, gTup, tDrop, tNext, tVar, tC, tOp, tUn, tTest, tB, tAnd, tOr, tNot, tAndV, tOrV, tNotV, tIf, tCons, tNil, xLst, xTup, xDic, tCB, tCall, tChain, tSl, tPart, tNoPart, rI, rI0, rU, rEq, rNe, scal, rXL, rXT, rXQ, rLenL, rLenT, rLenS, rLenQ, rInt1, rTupL, rLstL, rIsN, rNotN, rInT, rAddS, rLtS, rInS1, rNinS1, rIxS, rSlS, rStL, rCt, rSL, tApp, tPopAt, tPopL, tJoinL, tIndex, ixN0, ixN1, ixN2, ixN3, atI0, atI1, atI2, atI3, eqV_str, eqV_int, eqV_is, eqV_si, inV_nil, inV_cons, flatV, List.all_cons, List.all_nil, wd_eq, wd_ne0, wd_ne0', List.getElem?_cons_zero, List.getElem?_cons_succ, List.set_cons_zero, List.set_cons_succ, List.cons_append, List.nil_append, List.append_nil, Nat.reduceAdd, Nat.reduceLT, Option.some.injEq, V.int.injEq, V.str.injEq, V.bl.injEq, V.ref.injEq, HO.lst.injEq, HO.tup.injEq, HO.dK.injEq, List.cons.injEq, exists_eq_left, exists_eq_left', exists_eq_right, exists_eq_right', exists_and_left, exists_and_right, exists_const, exists_eq, exists_eq', and_assoc, true_and, and_true, false_and, and_false, true_or, or_true, false_or, or_false, reduceCtorEq, not_true_eq_false, not_false_eq_true, decide_true, decide_false, decide_eq_true_eq, decide_not, Bool.not_true, Bool.not_false, Bool.false_eq_true, Bool.true_and, Bool.and_true, Bool.false_and, Bool.and_false, Bool.true_or, Bool.or_true, Bool.false_or, Bool.or_false, if_true, if_false, ite_true, ite_false, Nat.reduceEqDiff, exists_false, eq_self, upd_same, Bool.not_eq_true', decide_eq_false_iff_not]
  split
  · exact ⟨b, l, rfl, B1, fun z H2 hz B2 f2 => k (.t z) H2 hz B2 (f1.trans f2)⟩
  · refine ⟨b, l, 4, rfl, B1, by decide, by decide, fun x H2 x0 x1 B2 f2 => ?_⟩
    refine ⟨b, l, 10007, rfl, B2, by decide, by decide, fun y H3 y0 y1 B3 f3 => ?_⟩
    simp only [tIfS, tRet, tRetN, tAsg, gName, gSub, gCons, gNil, gTup, tDrop, tNext, tVar, tC, tOp, tUn, tTest, tB, tAnd, tOr, tNot, tAndV, tOrV, tNotV, tIf, tCons, tNil, xLst, xTup, xDic, tCB, tCall, tChain, tSl, tPart, tNoPart, rI, rI0, rU, rEq, rNe, scal, rXL, rXT, rXQ, rLenL, rLenT, rLenS, rLenQ, rInt1, rTupL, rLstL, rIsN, rNotN, rInT, rAddS, rLtS, rInS1, rNinS1, rIxS, rSlS, rStL, rCt, rSL, tApp, tPopAt, tPopL, tJoinL, tIndex, ixN0, ixN1, ixN2, ixN3, atI0, atI1, atI2, atI3, eqV_str, eqV_int, eqV_is, eqV_si, inV_nil, inV_cons, flatV, List.all_cons, List.all_nil, wd_eq, wd_ne0, wd_ne0', List.getElem?_cons_zero, List.getElem?_cons_succ, List.set_cons_zero, List.set_cons_succ, List.cons_append, List.nil_append, List.append_nil, Nat.reduceAdd, Nat.reduceLT, Option.some.injEq, V.int.injEq, V.str.injEq, V.bl.injEq, V.ref.injEq, HO.lst.injEq, HO.tup.injEq, HO.dK.injEq, List.cons.injEq, exists_eq_left, exists_eq_left', exists_eq_right, exists_eq_right', exists_and_left, exists_and_right, exists_const, exists_eq, exists_eq', and_assoc, true_and, and_true, false_and, and_false, true_or, or_true, false_or, or_false, reduceCtorEq, not_true_eq_false, not_false_eq_true, decide_true, decide_false, decide_eq_true_eq, decide_not, Bool.not_true, Bool.not_false, Bool.false_eq_true, Bool.true_and, Bool.and_true, Bool.false_and, Bool.and_false, Bool.true_or, Bool.or_true, Bool.false_or, Bool.or_false, if_true, if_false, ite_true, ite_false, Nat.reduceEqDiff, exists_false, eq_self, upd_same, Bool.not_eq_true', decide_eq_false_iff_not]
    refine ⟨(by simp only [List.length_cons, List.length_nil]; decide), fun p H4 A => ?_⟩
    have B4 := B3.keep A.fr
    refine ⟨b, l, 2, rfl, B4, by decide, by decide, fun z H5 z0 z1 B5 f5 => ?_⟩
    have hp : H5 p = some (.lst [.int x, .int y]) := by
      refine f5.keep _ _ A.at_ ?_
      obtain ⟨_, _, _, h1, h2, _⟩ := B3
      simp only [List.mem_cons, List.not_mem_nil, or_false, not_or]
      exact ⟨fun e => ne_of_none h1 A.new e.symm, fun e => ne_of_none h2 A.new e.symm⟩
    simp only [tIfS, tRet, tRetN, tAsg, gName, gSub, gCons, gNil, gTup, tDrop, tNext, tVar, tC, tOp, tUn, tTest, tB, tAnd, tOr, tNot, tAndV, tOrV, tNotV, tIf, tCons, tNil, xLst, xTup, xDic, tCB, tCall, tChain, tSl, tPart, tNoPart, rI, rI0, rU, rEq, rNe, scal, rXL, rXT, rXQ, rLenL, rLenT, rLenS, rLenQ, rInt1, rTupL, rLstL, rIsN, rNotN, rInT, rAddS, rLtS, rInS1, rNinS1, rIxS, rSlS, rStL, rCt, rSL, tApp, tPopAt, tPopL, tJoinL, tIndex, ixN0, ixN1, ixN2, ixN3, atI0, atI1, atI2, atI3, eqV_str, eqV_int, eqV_is, eqV_si, inV_nil, inV_cons, flatV, List.all_cons, List.all_nil, wd_eq, wd_ne0, wd_ne0', List.getElem?_cons_zero, List.getElem?_cons_succ, List.set_cons_zero, List.set_cons_succ, List.cons_append, List.nil_append, List.append_nil, Nat.reduceAdd, Nat.reduceLT, Option.some.injEq, V.int.injEq, V.str.injEq, V.bl.injEq, V.ref.injEq, HO.lst.injEq, HO.tup.injEq, HO.dK.injEq, List.cons.injEq, exists_eq_left, exists_eq_left', exists_eq_right, exists_eq_right', exists_and_left, exists_and_right, exists_const, exists_eq, exists_eq', and_assoc, true_and, and_true, false_and, and_false, true_or, or_true, false_or, or_false, reduceCtorEq, not_true_eq_false, not_false_eq_true, decide_true, decide_false, decide_eq_true_eq, decide_not, Bool.not_true, Bool.not_false, Bool.false_eq_true, Bool.true_and, Bool.and_true, Bool.false_and, Bool.and_false, Bool.true_or, Bool.or_true, Bool.false_or, Bool.or_false, if_true, if_false, ite_true, ite_false, Nat.reduceEqDiff, exists_false, eq_self, upd_same, Bool.not_eq_true', decide_eq_false_iff_not, hp]
    have fr : Fr [b, l] H H5 := (((f1.trans f2).trans f3).al A).trans f5
    have hz : z = 0 ∨ z = 1 := by omega
    rcases hz with hz | hz
    · subst hz
      exact ⟨_, atI0 _ _, k (.n x) _ ⟨x0, by omega⟩ B5 fr⟩
    · subst hz
      exact ⟨_, atI1 _ _ _, k (.n y) _ ⟨y0, by omega⟩ B5 fr⟩
theorem BoxAt.off {H : Hp} {b l p : Addr} (B : BoxAt H b l) (h : H p = none) : p ∉ [b, l] := by
  obtain ⟨_, _, _, h1, h2, _⟩ := B
  simp only [List.mem_cons, List.not_mem_nil, or_false, not_or]
  exact ⟨fun e => ne_of_none h1 h e.symm, fun e => ne_of_none h2 h e.symm⟩
theorem BoxAt.mu {H H' : Hp} {b l p : Addr} {o : HO} (B : BoxAt H b l) (M : Mu H p o H') (hp : p ∉ [b, l]) : BoxAt H' b l := by
  obtain ⟨ne, ns, s, h1, h2, h3⟩ := B
  simp only [List.mem_cons, List.not_mem_nil, or_false, not_or] at hp
  exact ⟨ne, ns, s, M.k h1 fun e => hp.1 e.symm, M.k h2 fun e => hp.2 e.symm, h3⟩
def Lets (z : Str) : Prop := 0 < z.cps.toList.length ∧ z.cps.toList.length ≤ 26 ∧ ∀ c ∈ z.cps.toList, 97 ≤ c ∧ c < 123
theorem lets3 : Lets ("abz" : Str) := by unfold Lets; decide +kernel
theorem lets26 : Lets ("abcdefghijklmnopqrstuvwxyz" : Str) := by unfold Lets; decide +kernel
theorem slen (z : Str) : z.length = z.cps.toList.length := by
  show z.cps.size = _
  simp
theorem joinL_one : ∀ l : List Nat, TL.joinL [] (l.map fun c => [c]) = l
  | [] => rfl
  | [_] => rfl
  | a :: b :: r => by
    have q := joinL_one (b :: r)
    show [a] ++ ([] ++ TL.joinL [] ((b :: r).map fun c => [c])) = a :: b :: r
    rw [q]
    rfl
theorem tl_empty : TL.tl ("" : Str) = [] := by decide +kernel
/-- letters, joined -/
theorem join_letters (l : List Nat) : Txt.join ("" : Str) (l.map fun c => (⟨#[c]⟩ : Str)) = ⟨l.toArray⟩ := by
  rw [TL.join_eq]
  have h : TL.tl (Str.join ("" : Str) (l.map fun c => (⟨#[c]⟩ : Str))) = l := by
    rw [TL.tl_join, tl_empty, List.map_map]
    exact joinL_one l
  have e : ∀ x : Str, x = ⟨(TL.tl x).toArray⟩ := fun x => by
    show x = ⟨x.cps.toList.toArray⟩
    simp
  rw [e (Str.join _ _), h]
theorem sum_ones (l : List Nat) : ((l.map fun c => (⟨#[c]⟩ : Str)).map (·.length)).sum = l.length := by
  induction l with
  | nil => rfl
  | cons a r ih =>
    rw [List.map_cons, List.map_cons, List.sum_cons, ih]
    show 1 + r.length = r.length + 1
    omega
theorem rd_L_text {K : PySem.W.Frag} {vs : List V} {H : Hp} {Q : VK} {E : XK} (h : sp_L_text vs H Q E) : t_L_text K { nx := fun _ H' => Q .non H', rt := Q } (start ["_", "_", "_", "_"] vs) H := by
  obtain ⟨b, l, rfl, B, k⟩ := h
  show t_L_text K _ [some (.ref b), none, none, none] H
  unfold t_L_text
  refine st_seq ?_
  simp only [tIfS, tRet, tRetN, tAsg, gName, gSub, gCons, gNil, gTup, tDrop, tNext, tVar, tC, tOp, tUn, tTest, tB, tAnd, tOr, tNot, tAndV, tOrV, tNotV, tIf, tCons, tNil, xLst, xTup, xDic, tCB, tCall, tChain, tSl, tPart, tNoPart, rI, rI0, rU, rEq, rNe, scal, rXL, rXT, rXQ, rLenL, rLenT, rLenS, rLenQ, rInt1, rTupL, rLstL, rIsN, rNotN, rInT, rAddS, rLtS, rInS1, rNinS1, rIxS, rSlS, rStL, rCt, rSL, tApp, tPopAt, tPopL, tJoinL, tIndex, ixN0, ixN1, ixN2, ixN3, atI0, atI1, atI2, atI3, eqV_str, eqV_int, eqV_is, eqV_si, inV_nil, inV_cons, flatV, List.all_cons, List.all_nil, wd_eq, wd_ne0, wd_ne0', List.getElem?_cons_zero, List.getElem?_cons_succ, List.set_cons_zero, List.set_cons_succ, List.cons_append, List.nil_append, List.append_nil, Nat.reduceAdd, Nat.reduceLT, Option.some.injEq, V.int.injEq, V.str.injEq, V.bl.injEq, V.ref.injEq, HO.lst.injEq, HO.tup.injEq, HO.dK.injEq, List.cons.injEq, exists_eq_left, exists_eq_left', exists_eq_right, exists_eq_right', exists_and_left, exists_and_right, exists_const, exists_eq, exists_eq', and_assoc, true_and, and_true, false_and, and_false, true_or, or_true, false_or, or_false, reduceCtorEq, not_true_eq_false, not_false_eq_true, decide_true, decide_false, decide_eq_true_eq, decide_not, Bool.not_true, Bool.not_false, Bool.false_eq_true, Bool.true_and, Bool.and_true, Bool.false_and, Bool.and_false, Bool.true_or, Bool.or_true, Bool.false_or, Bool.or_false, if_true, if_false, ite_true, ite_false, Nat.reduceEqDiff, exists_false, eq_self, upd_same, Bool.not_eq_true', decide_eq_false_iff_not]
  refine ⟨(by simp only [List.length_cons, List.length_nil]; decide), fun p H1 A1 => ?_⟩
  have B1 := B.keep A1.fr
  refine ⟨b, l, 2, rfl, B1, by decide, by decide, fun r H2 r0 r1 B2 f2 => ?_⟩
  have hp : H2 p = _ := f2.keep _ _ A1.at_ (B.off A1.new)
  have fr2 : Fr [b, l] H H2 := A1.fr.trans f2
  have hl : ∃ z, atI [V.str ("abz" : Str), V.str ("abcdefghijklmnopqrstuvwxyz" : Str)] r = some (.str z) ∧ Lets z := by
    have hz : r = 0 ∨ r = 1 := by omega
    rcases hz with hz | hz
    · subst hz; exact ⟨_, atI0 _ _, lets3⟩
    · subst hz; exact ⟨_, atI1 _ _ _, lets26⟩
  obtain ⟨z, ez, lz⟩ := hl
  simp only [tIfS, tRet, tRetN, tAsg, gName, gSub, gCons, gNil, gTup, tDrop, tNext, tVar, tC, tOp, tUn, tTest, tB, tAnd, tOr, tNot, tAndV, tOrV, tNotV, tIf, tCons, tNil, xLst, xTup, xDic, tCB, tCall, tChain, tSl, tPart, tNoPart, rI, rI0, rU, rEq, rNe, scal, rXL, rXT, rXQ, rLenL, rLenT, rLenS, rLenQ, rInt1, rTupL, rLstL, rIsN, rNotN, rInT, rAddS, rLtS, rInS1, rNinS1, rIxS, rSlS, rStL, rCt, rSL, tApp, tPopAt, tPopL, tJoinL, tIndex, ixN0, ixN1, ixN2, ixN3, atI0, atI1, atI2, atI3, eqV_str, eqV_int, eqV_is, eqV_si, inV_nil, inV_cons, flatV, List.all_cons, List.all_nil, wd_eq, wd_ne0, wd_ne0', List.getElem?_cons_zero, List.getElem?_cons_succ, List.set_cons_zero, List.set_cons_succ, List.cons_append, List.nil_append, List.append_nil, Nat.reduceAdd, Nat.reduceLT, Option.some.injEq, V.int.injEq, V.str.injEq, V.bl.injEq, V.ref.injEq, HO.lst.injEq, HO.tup.injEq, HO.dK.injEq, List.cons.injEq, exists_eq_left, exists_eq_left', exists_eq_right, exists_eq_right', exists_and_left, exists_and_right, exists_const, exists_eq, exists_eq', and_assoc, true_and, and_true, false_and, and_false, true_or, or_true, false_or, or_false, reduceCtorEq, not_true_eq_false, not_false_eq_true, decide_true, decide_false, decide_eq_true_eq, decide_not, Bool.not_true, Bool.not_false, Bool.false_eq_true, Bool.true_and, Bool.and_true, Bool.false_and, Bool.and_false, Bool.true_or, Bool.or_true, Bool.false_or, Bool.or_false, if_true, if_false, ite_true, ite_false, Nat.reduceEqDiff, exists_false, eq_self, upd_same, Bool.not_eq_true', decide_eq_false_iff_not, hp, ez]
  refine st_seq ?_
  simp only [tIfS, tRet, tRetN, tAsg, gName, gSub, gCons, gNil, gTup, tDrop, tNext, tVar, tC, tOp, tUn, tTest, tB, tAnd, tOr, tNot, tAndV, tOrV, tNotV, tIf, tCons, tNil, xLst, xTup, xDic, tCB, tCall, tChain, tSl, tPart, tNoPart, rI, rI0, rU, rEq, rNe, scal, rXL, rXT, rXQ, rLenL, rLenT, rLenS, rLenQ, rInt1, rTupL, rLstL, rIsN, rNotN, rInT, rAddS, rLtS, rInS1, rNinS1, rIxS, rSlS, rStL, rCt, rSL, tApp, tPopAt, tPopL, tJoinL, tIndex, ixN0, ixN1, ixN2, ixN3, atI0, atI1, atI2, atI3, eqV_str, eqV_int, eqV_is, eqV_si, inV_nil, inV_cons, flatV, List.all_cons, List.all_nil, wd_eq, wd_ne0, wd_ne0', List.getElem?_cons_zero, List.getElem?_cons_succ, List.set_cons_zero, List.set_cons_succ, List.cons_append, List.nil_append, List.append_nil, Nat.reduceAdd, Nat.reduceLT, Option.some.injEq, V.int.injEq, V.str.injEq, V.bl.injEq, V.ref.injEq, HO.lst.injEq, HO.tup.injEq, HO.dK.injEq, List.cons.injEq, exists_eq_left, exists_eq_left', exists_eq_right, exists_eq_right', exists_and_left, exists_and_right, exists_const, exists_eq, exists_eq', and_assoc, true_and, and_true, false_and, and_false, true_or, or_true, false_or, or_false, reduceCtorEq, not_true_eq_false, not_false_eq_true, decide_true, decide_false, decide_eq_true_eq, decide_not, Bool.not_true, Bool.not_false, Bool.false_eq_true, Bool.true_and, Bool.and_true, Bool.false_and, Bool.and_false, Bool.true_or, Bool.or_true, Bool.false_or, Bool.or_false, if_true, if_false, ite_true, ite_false, Nat.reduceEqDiff, exists_false, eq_self, upd_same, Bool.not_eq_true', decide_eq_false_iff_not]
  refine ⟨b, l, 3, rfl, B2, by decide, by decide, fun x H3 x0 x1 B3 f3 => ?_⟩
  refine ⟨b, l, 13, rfl, B3, by decide, by decide, fun y H4 y0 y1 B4 f4 => ?_⟩
  simp only [tIfS, tRet, tRetN, tAsg, gName, gSub, gCons, gNil, gTup, tDrop, tNext, tVar, tC, tOp, tUn, tTest, tB, tAnd, tOr, tNot, tAndV, tOrV, tNotV, tIf, tCons, tNil, xLst, xTup, xDic, tCB, tCall, tChain, tSl, tPart, tNoPart, rI, rI0, rU, rEq, rNe, scal, rXL, rXT, rXQ, rLenL, rLenT, rLenS, rLenQ, rInt1, rTupL, rLstL, rIsN, rNotN, rInT, rAddS, rLtS, rInS1, rNinS1, rIxS, rSlS, rStL, rCt, rSL, tApp, tPopAt, tPopL, tJoinL, tIndex, ixN0, ixN1, ixN2, ixN3, atI0, atI1, atI2, atI3, eqV_str, eqV_int, eqV_is, eqV_si, inV_nil, inV_cons, flatV, List.all_cons, List.all_nil, wd_eq, wd_ne0, wd_ne0', List.getElem?_cons_zero, List.getElem?_cons_succ, List.set_cons_zero, List.set_cons_succ, List.cons_append, List.nil_append, List.append_nil, Nat.reduceAdd, Nat.reduceLT, Option.some.injEq, V.int.injEq, V.str.injEq, V.bl.injEq, V.ref.injEq, HO.lst.injEq, HO.tup.injEq, HO.dK.injEq, List.cons.injEq, exists_eq_left, exists_eq_left', exists_eq_right, exists_eq_right', exists_and_left, exists_and_right, exists_const, exists_eq, exists_eq', and_assoc, true_and, and_true, false_and, and_false, true_or, or_true, false_or, or_false, reduceCtorEq, not_true_eq_false, not_false_eq_true, decide_true, decide_false, decide_eq_true_eq, decide_not, Bool.not_true, Bool.not_false, Bool.false_eq_true, Bool.true_and, Bool.and_true, Bool.false_and, Bool.and_false, Bool.true_or, Bool.or_true, Bool.false_or, Bool.or_false, if_true, if_false, ite_true, ite_false, Nat.reduceEqDiff, exists_false, eq_self, upd_same, Bool.not_eq_true', decide_eq_false_iff_not]
  refine ⟨(by simp only [List.length_cons, List.length_nil]; decide), fun p5 H5 A5 => ?_⟩
  refine ⟨b, l, 8, rfl, B4.keep A5.fr, by decide, by decide, fun u H6 u0 u1 B6 f6 => ?_⟩
  have hp6 : H6 p5 = _ := f6.keep _ _ A5.at_ (B4.off A5.new)
  have fr6 : Fr [b, l] H H6 := (((fr2.trans f3).trans f4).al A5).trans f6
  have hl : ∃ m, atI [V.int x, V.int y] (if u = 1 then 1 else 0) = some (.int m) ∧ 0 ≤ m ∧ m < 13 := by
    split
    · exact ⟨_, atI1 _ _ _, y0, y1⟩
    · exact ⟨_, atI0 _ _, x0, by omega⟩
  obtain ⟨m, em, m0, m1⟩ := hl
  simp only [tIfS, tRet, tRetN, tAsg, gName, gSub, gCons, gNil, gTup, tDrop, tNext, tVar, tC, tOp, tUn, tTest, tB, tAnd, tOr, tNot, tAndV, tOrV, tNotV, tIf, tCons, tNil, xLst, xTup, xDic, tCB, tCall, tChain, tSl, tPart, tNoPart, rI, rI0, rU, rEq, rNe, scal, rXL, rXT, rXQ, rLenL, rLenT, rLenS, rLenQ, rInt1, rTupL, rLstL, rIsN, rNotN, rInT, rAddS, rLtS, rInS1, rNinS1, rIxS, rSlS, rStL, rCt, rSL, tApp, tPopAt, tPopL, tJoinL, tIndex, ixN0, ixN1, ixN2, ixN3, atI0, atI1, atI2, atI3, eqV_str, eqV_int, eqV_is, eqV_si, inV_nil, inV_cons, flatV, List.all_cons, List.all_nil, wd_eq, wd_ne0, wd_ne0', List.getElem?_cons_zero, List.getElem?_cons_succ, List.set_cons_zero, List.set_cons_succ, List.cons_append, List.nil_append, List.append_nil, Nat.reduceAdd, Nat.reduceLT, Option.some.injEq, V.int.injEq, V.str.injEq, V.bl.injEq, V.ref.injEq, HO.lst.injEq, HO.tup.injEq, HO.dK.injEq, List.cons.injEq, exists_eq_left, exists_eq_left', exists_eq_right, exists_eq_right', exists_and_left, exists_and_right, exists_const, exists_eq, exists_eq', and_assoc, true_and, and_true, false_and, and_false, true_or, or_true, false_or, or_false, reduceCtorEq, not_true_eq_false, not_false_eq_true, decide_true, decide_false, decide_eq_true_eq, decide_not, Bool.not_true, Bool.not_false, Bool.false_eq_true, Bool.true_and, Bool.and_true, Bool.false_and, Bool.and_false, Bool.true_or, Bool.or_true, Bool.false_or, Bool.or_false, if_true, if_false, ite_true, ite_false, Nat.reduceEqDiff, exists_false, eq_self, upd_same, Bool.not_eq_true', decide_eq_false_iff_not, hp6, em]
  refine lcR (n := m) (fun R h => ⟨_, rfl, h⟩) m0 (by omega) fun L hL => ?_
  refine ⟨fun i Hc => ∃ cs : List Nat, cs.length = i ∧ (∀ c ∈ cs, 97 ≤ c ∧ c < 123) ∧ Hc L = some (.lst ((cs.map fun c => (⟨#[c]⟩ : Str)).map V.str)) ∧ BoxAt Hc b l ∧ Fr [b, l] H6 Hc, ?_, ?_, ?_⟩
  · refine ⟨[], rfl, by simp, upd_same, B6.keep (Al.of hL).fr, (Al.of hL).fr⟩
  · rintro i Hc hi ⟨cs, hc1, hc2, hc3, hc4, hc5⟩
    show LcTurn _ _ _ _ _ _ _ _ _
    unfold LcTurn
    simp only [tIfS, tRet, tRetN, tAsg, gName, gSub, gCons, gNil, gTup, tDrop, tNext, tVar, tC, tOp, tUn, tTest, tB, tAnd, tOr, tNot, tAndV, tOrV, tNotV, tIf, tCons, tNil, xLst, xTup, xDic, tCB, tCall, tChain, tSl, tPart, tNoPart, rI, rI0, rU, rEq, rNe, scal, rXL, rXT, rXQ, rLenL, rLenT, rLenS, rLenQ, rInt1, rTupL, rLstL, rIsN, rNotN, rInT, rAddS, rLtS, rInS1, rNinS1, rIxS, rSlS, rStL, rCt, rSL, tApp, tPopAt, tPopL, tJoinL, tIndex, ixN0, ixN1, ixN2, ixN3, atI0, atI1, atI2, atI3, eqV_str, eqV_int, eqV_is, eqV_si, inV_nil, inV_cons, flatV, List.all_cons, List.all_nil, wd_eq, wd_ne0, wd_ne0', List.getElem?_cons_zero, List.getElem?_cons_succ, List.set_cons_zero, List.set_cons_succ, List.cons_append, List.nil_append, List.append_nil, Nat.reduceAdd, Nat.reduceLT, Option.some.injEq, V.int.injEq, V.str.injEq, V.bl.injEq, V.ref.injEq, HO.lst.injEq, HO.tup.injEq, HO.dK.injEq, List.cons.injEq, exists_eq_left, exists_eq_left', exists_eq_right, exists_eq_right', exists_and_left, exists_and_right, exists_const, exists_eq, exists_eq', and_assoc, true_and, and_true, false_and, and_false, true_or, or_true, false_or, or_false, reduceCtorEq, not_true_eq_false, not_false_eq_true, decide_true, decide_false, decide_eq_true_eq, decide_not, Bool.not_true, Bool.not_false, Bool.false_eq_true, Bool.true_and, Bool.and_true, Bool.false_and, Bool.and_false, Bool.true_or, Bool.or_true, Bool.false_or, Bool.or_false, if_true, if_false, ite_true, ite_false, Nat.reduceEqDiff, exists_false, eq_self, upd_same, Bool.not_eq_true', decide_eq_false_iff_not, wipe, tYes]
    have zs : z.length ≤ sizeLine := by rw [slen]; exact Nat.le_trans lz.2.1 (by decide)
    refine ⟨zs, b, l, _, rfl, hc4, by rw [slen]; have := lz.1; omega, by rw [slen]; have := lz.2.1; omega, fun r' H7 q0 q1 B7 f7 => ?_⟩
    simp only [tIfS, tRet, tRetN, tAsg, gName, gSub, gCons, gNil, gTup, tDrop, tNext, tVar, tC, tOp, tUn, tTest, tB, tAnd, tOr, tNot, tAndV, tOrV, tNotV, tIf, tCons, tNil, xLst, xTup, xDic, tCB, tCall, tChain, tSl, tPart, tNoPart, rI, rI0, rU, rEq, rNe, scal, rXL, rXT, rXQ, rLenL, rLenT, rLenS, rLenQ, rInt1, rTupL, rLstL, rIsN, rNotN, rInT, rAddS, rLtS, rInS1, rNinS1, rIxS, rSlS, rStL, rCt, rSL, tApp, tPopAt, tPopL, tJoinL, tIndex, ixN0, ixN1, ixN2, ixN3, atI0, atI1, atI2, atI3, eqV_str, eqV_int, eqV_is, eqV_si, inV_nil, inV_cons, flatV, List.all_cons, List.all_nil, wd_eq, wd_ne0, wd_ne0', List.getElem?_cons_zero, List.getElem?_cons_succ, List.set_cons_zero, List.set_cons_succ, List.cons_append, List.nil_append, List.append_nil, Nat.reduceAdd, Nat.reduceLT, Option.some.injEq, V.int.injEq, V.str.injEq, V.bl.injEq, V.ref.injEq, HO.lst.injEq, HO.tup.injEq, HO.dK.injEq, List.cons.injEq, exists_eq_left, exists_eq_left', exists_eq_right, exists_eq_right', exists_and_left, exists_and_right, exists_const, exists_eq, exists_eq', and_assoc, true_and, and_true, false_and, and_false, true_or, or_true, false_or, or_false, reduceCtorEq, not_true_eq_false, not_false_eq_true, decide_true, decide_false, decide_eq_true_eq, decide_not, Bool.not_true, Bool.not_false, Bool.false_eq_true, Bool.true_and, Bool.and_true, Bool.false_and, Bool.and_false, Bool.true_or, Bool.or_true, Bool.false_or, Bool.or_false, if_true, if_false, ite_true, ite_false, Nat.reduceEqDiff, exists_false, eq_self, upd_same, Bool.not_eq_true', decide_eq_false_iff_not]
    rw [slen] at q1
    obtain ⟨c, ec, mc⟩ := atI_of q0 q1
    have oL := B6.off hL
    have hL7 : H7 L = _ := f7.keep _ _ hc3 oL
    have M := Mu.of (o := .lst ((cs.map fun c => (⟨#[c]⟩ : Str)).map V.str ++ [.str ⟨#[c]⟩])) hL7 fun _ z => by cases z
    refine ⟨zs, c, ec, _, hL7, ?_, cs ++ [c], ?_, ?_, ?_, B7.mu M oL, (hc5.trans f7).muN M hL⟩
    · simp only [List.length_map]; exact Nat.lt_of_le_of_lt (m := 13) (by omega) (by decide)
    · simp [hc1]
    · intro x hx
      rcases List.mem_append.mp hx with hx | hx
      · exact hc2 x hx
      · rw [List.mem_singleton.mp hx]; exact lz.2.2 c mc
    · simp
  · rintro Hc ⟨cs, hc1, hc2, hc3, hc4, hc5⟩
    refine ⟨L, rfl, _, hc3, ?_, ?_⟩
    · rw [sum_ones, List.length_map]
      show cs.length + cs.length * 0 ≤ _
      omega
    · rw [join_letters]
      exact k _ _ ⟨by simp; omega, by simpa using hc2⟩ hc4 (fr6.trans hc5)
theorem tl12 {z : Str} (h : Txt12 z) : z.length ≤ 12 := by rw [slen]; exact h.1
/-- letters of one that don't stand in the other -/
theorem lc_sub {a c : Str} {σ : L2.St} {H : Hp} {Q : VK} (i1 : σ[1]? = some (some (.str a))) (i2 : σ[2]? = some (some (.str c))) (l3 : 3 < σ.length) (ha : Txt12 a)
    (k : ∀ H', Fr [] H H' → Q (.str (subT a c)) H') : tJoinL (tC (.str ("" : Str))) (tLc (iStr (tVar 1)) (gName 3) (tTest (tOp rNinS1 (tVar 3) (tVar 2))) (tVar 3) [3]) σ H Q := by
  refine ⟨_, rfl, ?_⟩
  refine lcS (z := a) (fun R h => ⟨_, i1, h⟩) fun L hL => ?_
  refine ⟨fun i Hc => ∃ cs : List Nat, cs = (a.cps.toList.take i).filter (fun x => !decide (x ∈ c.cps.toList)) ∧ Hc L = some (.lst ((cs.map fun c => (⟨#[c]⟩ : Str)).map V.str)) ∧ Fr [] H Hc, ?_, ?_, ?_⟩
  · exact ⟨[], by simp, upd_same, (Al.of hL).fr⟩
  · rintro i x Hc hx ⟨cs, h1, h2, h3⟩
    have hlen : i < a.cps.toList.length := (List.getElem?_eq_some_iff.mp hx).1
    have tk : a.cps.toList.take (i + 1) = a.cps.toList.take i ++ [x] := by rw [List.take_succ, hx]; rfl
    refine ⟨by simp [wipe, List.set_set], ?_⟩
    have g3 : ((wipe σ [3]).set 3 (some (V.str ⟨#[x]⟩)))[3]? = some (some (V.str ⟨#[x]⟩)) := by simp [wipe, l3]
    have g2 : ((wipe σ [3]).set 3 (some (V.str ⟨#[x]⟩)))[2]? = some (some (V.str c)) := by simp [wipe, i2]
    refine ⟨_, g3, _, g2, x, c, rfl, rfl, _, rfl, ?_⟩
    by_cases hm : x ∈ c.cps.toList
    · rw [decide_eq_true hm]
      refine iteF ⟨cs, ?_, h2, h3⟩
      rw [tk, List.filter_append, ← h1, List.filter_cons, decide_eq_true hm]
      simp
    · rw [decide_eq_false hm]
      refine iteT ⟨_, g3, _, h2, ?_, cs ++ [x], ?_, ?_, ?_⟩
      · have := List.length_filter_le (fun x => !decide (x ∈ c.cps.toList)) (a.cps.toList.take i)
        rw [← h1] at this
        have h12 := ha.1
        simp only [List.length_map]
        rw [List.length_take] at this
        exact Nat.lt_of_le_of_lt (m := 12) (by omega) (by decide)
      · rw [tk, List.filter_append, ← h1, List.filter_cons, decide_eq_false hm]
        rfl
      · rw [upd_same]; simp
      · exact h3.muN (Mu.of h2 fun _ z => by cases z) hL
  · rintro Hc ⟨cs, h1, h2, h3⟩
    rw [List.take_length] at h1
    refine ⟨L, _, rfl, h2, ?_, ?_⟩
    · have := List.length_filter_le (fun x => !decide (x ∈ c.cps.toList)) a.cps.toList
      rw [← h1] at this
      have h12 := ha.1
      rw [sum_ones, List.length_map]
      show cs.length + cs.length * 0 ≤ _
      omega
    · rw [join_letters, h1]
      exact k _ h3
theorem rd_of_texts {K : PySem.W.Frag} {vs : List V} {H : Hp} {Q : VK} {E : XK} (h : sp_of_texts vs H Q E) : t_of_texts K { nx := fun _ H' => Q .non H', rt := Q } (start ["_", "_", "_", "_"] vs) H := by
  obtain ⟨s, a, b, rfl, hs, ha, hb, k⟩ := h
  show t_of_texts K _ [some (.str s.s), some (.str a), some (.str b), none] H
  unfold t_of_texts
  have z1 := tl12 ha
  have z2 := tl12 hb
  refine st_seq ?_
  cases s with
  | add =>
    simp only [tIfS, tTest, tOp, tVar, tC, rEq]
    simp only [tIfS, tRet, tRetN, tAsg, gName, gSub, gCons, gNil, gTup, tDrop, tNext, tVar, tC, tOp, tUn, tTest, tB, tAnd, tOr, tNot, tAndV, tOrV, tNotV, tIf, tCons, tNil, xLst, xTup, xDic, tCB, tCall, tChain, tSl, tPart, tNoPart, rI, rI0, rU, rEq, rNe, scal, rXL, rXT, rXQ, rLenL, rLenT, rLenS, rLenQ, rInt1, rTupL, rLstL, rIsN, rNotN, rInT, rAddS, rLtS, rInS1, rNinS1, rIxS, rSlS, rStL, rCt, rSL, tApp, tPopAt, tPopL, tJoinL, tIndex, ixN0, ixN1, ixN2, ixN3, atI0, atI1, atI2, atI3, eqV_str, eqV_int, eqV_is, eqV_si, inV_nil, inV_cons, flatV, List.all_cons, List.all_nil, wd_eq, wd_ne0, wd_ne0', List.getElem?_cons_zero, List.getElem?_cons_succ, List.set_cons_zero, List.set_cons_succ, List.cons_append, List.nil_append, List.append_nil, Nat.reduceAdd, Nat.reduceLT, Option.some.injEq, V.int.injEq, V.str.injEq, V.bl.injEq, V.ref.injEq, HO.lst.injEq, HO.tup.injEq, HO.dK.injEq, List.cons.injEq, exists_eq_left, exists_eq_left', exists_eq_right, exists_eq_right', exists_and_left, exists_and_right, exists_const, exists_eq, exists_eq', and_assoc, true_and, and_true, false_and, and_false, true_or, or_true, false_or, or_false, reduceCtorEq, not_true_eq_false, not_false_eq_true, decide_true, decide_false, decide_eq_true_eq, decide_not, Bool.not_true, Bool.not_false, Bool.false_eq_true, Bool.true_and, Bool.and_true, Bool.false_and, Bool.and_false, Bool.true_or, Bool.or_true, Bool.false_or, Bool.or_false, if_true, if_false, ite_true, ite_false, Nat.reduceEqDiff, exists_false, eq_self, upd_same, Bool.not_eq_true', decide_eq_false_iff_not, Sg.s, Sg.ix]
    have z3 : (a ++ b).length ≤ sizeLine := by
      rw [slen, show (a ++ b).cps.toList = a.cps.toList ++ b.cps.toList from TL.tl_append a b, List.length_append, ← slen, ← slen]
      exact Nat.le_trans (m := 24) (by omega) (by decide)
    exact ⟨Nat.le_trans (m := 24) (by omega) (by decide), z3, k H (.refl _ _)⟩
  | sub =>
    simp only [tIfS, tTest, tOp, tVar, tC, rEq]
    refine ⟨_, rfl, rfl, _, rfl, ?_⟩
    refine ite2 (fun e => absurd (of_decide_eq_true e) (by simp [Sg.s, Sg.ix, wd_eq])) fun _ => ?_
    refine st_seq ⟨_, rfl, rfl, _, rfl, ite2 (fun _ => ?_) fun e => absurd (show decide (V.str _ = V.str _) = true from decide_eq_true rfl) e⟩
    exact lc_sub rfl rfl (by simp) ha k
  | less =>
    simp only [tIfS, tTest, tOp, tVar, tC, rEq]
    refine ⟨_, rfl, rfl, _, rfl, ?_⟩
    refine ite2 (fun e => absurd (of_decide_eq_true e) (by simp [Sg.s, Sg.ix, wd_eq])) fun _ => ?_
    refine st_seq ⟨_, rfl, rfl, _, rfl, ite2 (fun e => absurd (of_decide_eq_true e) (by simp [Sg.s, Sg.ix, wd_eq])) fun _ => ?_⟩
    have k0 := k H (.refl _ _)
    simp only [tIfS, tRet, tRetN, tAsg, gName, gSub, gCons, gNil, gTup, tDrop, tNext, tVar, tC, tOp, tUn, tTest, tB, tAnd, tOr, tNot, tAndV, tOrV, tNotV, tIf, tCons, tNil, xLst, xTup, xDic, tCB, tCall, tChain, tSl, tPart, tNoPart, rI, rI0, rU, rEq, rNe, scal, rXL, rXT, rXQ, rLenL, rLenT, rLenS, rLenQ, rInt1, rTupL, rLstL, rIsN, rNotN, rInT, rAddS, rLtS, rInS1, rNinS1, rIxS, rSlS, rStL, rCt, rSL, tApp, tPopAt, tPopL, tJoinL, tIndex, ixN0, ixN1, ixN2, ixN3, atI0, atI1, atI2, atI3, eqV_str, eqV_int, eqV_is, eqV_si, inV_nil, inV_cons, flatV, List.all_cons, List.all_nil, wd_eq, wd_ne0, wd_ne0', List.getElem?_cons_zero, List.getElem?_cons_succ, List.set_cons_zero, List.set_cons_succ, List.cons_append, List.nil_append, List.append_nil, Nat.reduceAdd, Nat.reduceLT, Option.some.injEq, V.int.injEq, V.str.injEq, V.bl.injEq, V.ref.injEq, HO.lst.injEq, HO.tup.injEq, HO.dK.injEq, List.cons.injEq, exists_eq_left, exists_eq_left', exists_eq_right, exists_eq_right', exists_and_left, exists_and_right, exists_const, exists_eq, exists_eq', and_assoc, true_and, and_true, false_and, and_false, true_or, or_true, false_or, or_false, reduceCtorEq, not_true_eq_false, not_false_eq_true, decide_true, decide_false, decide_eq_true_eq, decide_not, Bool.not_true, Bool.not_false, Bool.false_eq_true, Bool.true_and, Bool.and_true, Bool.false_and, Bool.and_false, Bool.true_or, Bool.or_true, Bool.false_or, Bool.or_false, if_true, if_false, ite_true, ite_false, Nat.reduceEqDiff, exists_false, eq_self, upd_same, Bool.not_eq_true', decide_eq_false_iff_not]
    simpa [ov, wk, Vl.v, b2n] using k0
  | same => exact absurd rfl hs
theorem rd_L_of_texts {K : PySem.W.Frag} {vs : List V} {H : Hp} {Q : VK} {E : XK} (h : sp_L_of_texts vs H Q E) : t_L_of_texts K { nx := fun _ H' => Q .non H', rt := Q } (start ["_", "_", "_", "_"] vs) H := by
  obtain ⟨s, a, b, rfl, hs, ha, hb, k⟩ := h
  show t_L_of_texts K _ [some (.str s.s), some (.str a), some (.str b), none] H
  unfold t_L_of_texts
  have z1 := tl12 ha
  have z2 := tl12 hb
  refine st_seq ?_
  cases s with
  | add =>
    simp only [tIfS, tTest, tOp, tVar, tC, rEq]
    simp only [tIfS, tRet, tRetN, tAsg, gName, gSub, gCons, gNil, gTup, tDrop, tNext, tVar, tC, tOp, tUn, tTest, tB, tAnd, tOr, tNot, tAndV, tOrV, tNotV, tIf, tCons, tNil, xLst, xTup, xDic, tCB, tCall, tChain, tSl, tPart, tNoPart, rI, rI0, rU, rEq, rNe, scal, rXL, rXT, rXQ, rLenL, rLenT, rLenS, rLenQ, rInt1, rTupL, rLstL, rIsN, rNotN, rInT, rAddS, rLtS, rInS1, rNinS1, rIxS, rSlS, rStL, rCt, rSL, tApp, tPopAt, tPopL, tJoinL, tIndex, ixN0, ixN1, ixN2, ixN3, atI0, atI1, atI2, atI3, eqV_str, eqV_int, eqV_is, eqV_si, inV_nil, inV_cons, flatV, List.all_cons, List.all_nil, wd_eq, wd_ne0, wd_ne0', List.getElem?_cons_zero, List.getElem?_cons_succ, List.set_cons_zero, List.set_cons_succ, List.cons_append, List.nil_append, List.append_nil, Nat.reduceAdd, Nat.reduceLT, Option.some.injEq, V.int.injEq, V.str.injEq, V.bl.injEq, V.ref.injEq, HO.lst.injEq, HO.tup.injEq, HO.dK.injEq, List.cons.injEq, exists_eq_left, exists_eq_left', exists_eq_right, exists_eq_right', exists_and_left, exists_and_right, exists_const, exists_eq, exists_eq', and_assoc, true_and, and_true, false_and, and_false, true_or, or_true, false_or, or_false, reduceCtorEq, not_true_eq_false, not_false_eq_true, decide_true, decide_false, decide_eq_true_eq, decide_not, Bool.not_true, Bool.not_false, Bool.false_eq_true, Bool.true_and, Bool.and_true, Bool.false_and, Bool.and_false, Bool.true_or, Bool.or_true, Bool.false_or, Bool.or_false, if_true, if_false, ite_true, ite_false, Nat.reduceEqDiff, exists_false, eq_self, upd_same, Bool.not_eq_true', decide_eq_false_iff_not, Sg.s, Sg.ix]
    have z3 : (a ++ b).length ≤ sizeLine := by
      rw [slen, show (a ++ b).cps.toList = a.cps.toList ++ b.cps.toList from TL.tl_append a b, List.length_append, ← slen, ← slen]
      exact Nat.le_trans (m := 24) (by omega) (by decide)
    exact ⟨Nat.le_trans (m := 24) (by omega) (by decide), z3, k H (.refl _ _)⟩
  | sub =>
    simp only [tIfS, tTest, tOp, tVar, tC, rEq]
    refine ⟨_, rfl, rfl, _, rfl, ?_⟩
    refine ite2 (fun e => absurd (of_decide_eq_true e) (by simp [Sg.s, Sg.ix, wd_eq])) fun _ => ?_
    refine st_seq ⟨_, rfl, rfl, _, rfl, ite2 (fun e => absurd (of_decide_eq_true e) (by simp [Sg.s, Sg.ix, wd_eq])) fun _ => ?_⟩
    exact lc_sub rfl rfl (by simp) ha k
  | less =>
    simp only [tIfS, tTest, tOp, tVar, tC, rEq]
    refine ⟨_, rfl, rfl, _, rfl, ?_⟩
    refine ite2 (fun e => absurd (of_decide_eq_true e) (by simp [Sg.s, Sg.ix, wd_eq])) fun _ => ?_
    refine st_seq ⟨_, rfl, rfl, _, rfl, ite2 (fun _ => ?_) fun e => absurd (show decide (V.str _ = V.str _) = true from decide_eq_true rfl) e⟩
    have k0 := k H (.refl _ _)
    simp only [tIfS, tRet, tRetN, tAsg, gName, gSub, gCons, gNil, gTup, tDrop, tNext, tVar, tC, tOp, tUn, tTest, tB, tAnd, tOr, tNot, tAndV, tOrV, tNotV, tIf, tCons, tNil, xLst, xTup, xDic, tCB, tCall, tChain, tSl, tPart, tNoPart, rI, rI0, rU, rEq, rNe, scal, rXL, rXT, rXQ, rLenL, rLenT, rLenS, rLenQ, rInt1, rTupL, rLstL, rIsN, rNotN, rInT, rAddS, rLtS, rInS1, rNinS1, rIxS, rSlS, rStL, rCt, rSL, tApp, tPopAt, tPopL, tJoinL, tIndex, ixN0, ixN1, ixN2, ixN3, atI0, atI1, atI2, atI3, eqV_str, eqV_int, eqV_is, eqV_si, inV_nil, inV_cons, flatV, List.all_cons, List.all_nil, wd_eq, wd_ne0, wd_ne0', List.getElem?_cons_zero, List.getElem?_cons_succ, List.set_cons_zero, List.set_cons_succ, List.cons_append, List.nil_append, List.append_nil, Nat.reduceAdd, Nat.reduceLT, Option.some.injEq, V.int.injEq, V.str.injEq, V.bl.injEq, V.ref.injEq, HO.lst.injEq, HO.tup.injEq, HO.dK.injEq, List.cons.injEq, exists_eq_left, exists_eq_left', exists_eq_right, exists_eq_right', exists_and_left, exists_and_right, exists_const, exists_eq, exists_eq', and_assoc, true_and, and_true, false_and, and_false, true_or, or_true, false_or, or_false, reduceCtorEq, not_true_eq_false, not_false_eq_true, decide_true, decide_false, decide_eq_true_eq, decide_not, Bool.not_true, Bool.not_false, Bool.false_eq_true, Bool.true_and, Bool.and_true, Bool.false_and, Bool.and_false, Bool.true_or, Bool.or_true, Bool.false_or, Bool.or_false, if_true, if_false, ite_true, ite_false, Nat.reduceEqDiff, exists_false, eq_self, upd_same, Bool.not_eq_true', decide_eq_false_iff_not]
    simpa [ov, wk, Vl.v, b2n] using k0
  | same => exact absurd rfl hs
/-! ### the script, stirred -/
theorem Fr.sqL {K : PySem.W.Frag} {H H1 : Hp} {a : Addr} {xs : List V} (f : Fr [] H H1) (h : SqL K H a xs) : SqL K H1 a xs := by
  rcases h with (h | ⟨o, h⟩) | h
  · exact .inl (.inl (f.keep _ _ h (by simp)))
  · exact .inl (.inr ⟨o, f.keep _ _ h (by simp)⟩)
  · exact .inr h
theorem sum_nonneg : ∀ {l : List Int}, (∀ x ∈ l, 0 ≤ x) → 0 ≤ l.sum
  | [], _ => Int.le_refl 0
  | a :: r, h => by
    rw [List.sum_cons]
    have h1 := h a (List.mem_cons_self ..)
    have h2 := sum_nonneg (l := r) fun x hx => h x (List.mem_cons_of_mem _ hx)
    omega
theorem rd_L_script {K : PySem.W.Frag} {vs : List V} {H : Hp} {Q : VK} {E : XK} (h : sp_L_script K vs H Q E) : t_L_script K { nx := fun _ H' => Q .non H', rt := Q } (start ["_", "_", "_", "_"] vs) H := by
  obtain ⟨a, ns, rfl, hS, hl, k⟩ := h
  show t_L_script K _ [some (.ref a), none, none, none] H
  unfold t_L_script
  refine st_seq ?_
  simp only [tIfS, tRet, tRetN, tAsg, gName, gSub, gCons, gNil, gTup, tDrop, tNext, tVar, tC, tOp, tUn, tTest, tB, tAnd, tOr, tNot, tAndV, tOrV, tNotV, tIf, tCons, tNil, xLst, xTup, xDic, tCB, tCall, tChain, tSl, tPart, tNoPart, rI, rI0, rU, rEq, rNe, scal, rXL, rXT, rXQ, rLenL, rLenT, rLenS, rLenQ, rInt1, rTupL, rLstL, rIsN, rNotN, rInT, rAddS, rLtS, rInS1, rNinS1, rIxS, rSlS, rStL, rCt, rSL, tApp, tPopAt, tPopL, tJoinL, tIndex, ixN0, ixN1, ixN2, ixN3, atI0, atI1, atI2, atI3, eqV_str, eqV_int, eqV_is, eqV_si, inV_nil, inV_cons, flatV, List.all_cons, List.all_nil, wd_eq, wd_ne0, wd_ne0', List.getElem?_cons_zero, List.getElem?_cons_succ, List.set_cons_zero, List.set_cons_succ, List.cons_append, List.nil_append, List.append_nil, Nat.reduceAdd, Nat.reduceLT, Option.some.injEq, V.int.injEq, V.str.injEq, V.bl.injEq, V.ref.injEq, HO.lst.injEq, HO.tup.injEq, HO.dK.injEq, List.cons.injEq, exists_eq_left, exists_eq_left', exists_eq_right, exists_eq_right', exists_and_left, exists_and_right, exists_const, exists_eq, exists_eq', and_assoc, true_and, and_true, false_and, and_false, true_or, or_true, false_or, or_false, reduceCtorEq, not_true_eq_false, not_false_eq_true, decide_true, decide_false, decide_eq_true_eq, decide_not, Bool.not_true, Bool.not_false, Bool.false_eq_true, Bool.true_and, Bool.and_true, Bool.false_and, Bool.and_false, Bool.true_or, Bool.or_true, Bool.false_or, Bool.or_false, if_true, if_false, ite_true, ite_false, Nat.reduceEqDiff, exists_false, eq_self, upd_same, Bool.not_eq_true', decide_eq_false_iff_not]
  refine ⟨_, rfl, a, _, rfl, hS, fun L hL => ?_⟩
  refine lc_it (walk_enum (xs := ns.map V.int)) (fun i Hc => ∃ ms : List Int, ms.length = i ∧ Hc L = some (.lst (ms.map V.int)) ∧ Fr [] H Hc) ?_ ?_ ?_ ?_
  · exact ⟨[], rfl, upd_same, (Al.of hL).fr⟩
  · rintro i Hc _ ⟨ms, h1, h2, h3⟩
    exact h3.sqL hS
  · rintro i x Hc H' hi ⟨ms, h1, h2, h3⟩ ⟨T, x1, x2, rfl, hT, rfl, e1, e2⟩
    cases e1
    replace e2 : (ns.map V.int)[i]? = some x2 := e2
    rw [List.getElem?_map] at e2
    cases en : ns[i]? with
    | none => rw [en] at e2; cases e2
    | some n =>
      rw [en] at e2
      cases e2
      have A := Al.of (o := .tup [.int (i : Int), .int n]) hT
      rw [List.length_map] at hi
      refine ⟨T, _, rfl, SqT.of A.at_, rfl, ?_⟩
      simp only [tIfS, tRet, tRetN, tAsg, gName, gSub, gCons, gNil, gTup, tDrop, tNext, tVar, tC, tOp, tUn, tTest, tB, tAnd, tOr, tNot, tAndV, tOrV, tNotV, tIf, tCons, tNil, xLst, xTup, xDic, tCB, tCall, tChain, tSl, tPart, tNoPart, rI, rI0, rU, rEq, rNe, scal, rXL, rXT, rXQ, rLenL, rLenT, rLenS, rLenQ, rInt1, rTupL, rLstL, rIsN, rNotN, rInT, rAddS, rLtS, rInS1, rNinS1, rIxS, rSlS, rStL, rCt, rSL, tApp, tPopAt, tPopL, tJoinL, tIndex, ixN0, ixN1, ixN2, ixN3, atI0, atI1, atI2, atI3, eqV_str, eqV_int, eqV_is, eqV_si, inV_nil, inV_cons, flatV, List.all_cons, List.all_nil, wd_eq, wd_ne0, wd_ne0', List.getElem?_cons_zero, List.getElem?_cons_succ, List.set_cons_zero, List.set_cons_succ, List.cons_append, List.nil_append, List.append_nil, Nat.reduceAdd, Nat.reduceLT, Option.some.injEq, V.int.injEq, V.str.injEq, V.bl.injEq, V.ref.injEq, HO.lst.injEq, HO.tup.injEq, HO.dK.injEq, List.cons.injEq, exists_eq_left, exists_eq_left', exists_eq_right, exists_eq_right', exists_and_left, exists_and_right, exists_const, exists_eq, exists_eq', and_assoc, true_and, and_true, false_and, and_false, true_or, or_true, false_or, or_false, reduceCtorEq, not_true_eq_false, not_false_eq_true, decide_true, decide_false, decide_eq_true_eq, decide_not, Bool.not_true, Bool.not_false, Bool.false_eq_true, Bool.true_and, Bool.and_true, Bool.false_and, Bool.and_false, Bool.true_or, Bool.or_true, Bool.false_or, Bool.or_false, if_true, if_false, ite_true, ite_false, Nat.reduceEqDiff, exists_false, eq_self, upd_same, Bool.not_eq_true', decide_eq_false_iff_not, wipe, tYes]
      have c1 : (0 : Int) ≤ n % 69621 := Int.emod_nonneg _ (by decide)
      have c2 : n % 69621 < 69621 := Int.emod_lt_of_pos _ (by decide)
      refine ⟨by decide, .inl ⟨by omega, by omega⟩, _, A.k h2, ?_, ms ++ [((i : Int) + 1) * (n % 69621)], ?_, ?_, ?_⟩
      · rw [List.length_map, h1]; exact Nat.lt_of_lt_of_le (m := 64) (by omega) (by decide)
      · simp [h1]
      · simp
      · exact (h3.al A).muN (Mu.of (A.k h2) fun _ z => by cases z) hL
  · rintro Hc ⟨ms, h1, h2, h3⟩
    refine ⟨L, ms, rfl, SqL.of h2, _, rfl, by decide, ?_⟩
    refine ⟨a, _, rfl, .inl (h3.sqL hS), fun l2 H2 A => ?_⟩
    refine ⟨a, _, rfl, .inl ((h3.al A).sqL hS), _, rfl, ?_⟩
    have g0 : 0 ≤ ms.sum % 2147483647 := Int.emod_nonneg _ (by decide)
    have g1 : ms.sum % 2147483647 < 2147483647 := Int.emod_lt_of_pos _ (by decide)
    refine ⟨.inl ⟨by omega, by omega⟩, (by simp only [List.length_cons, List.length_nil]; decide), fun b H3 A3 => ?_⟩
    refine k b l2 H3 ⟨fun e => ?_, ns, _, A3.at_, A3.k A.at_, ?_, ?_⟩ ((h3.al A).al A3)
    · rw [e] at A3; have := A3.new; rw [A.at_] at this; cases this
    · split <;> omega
    · split <;> omega
/-! ### isinstance by shapes -/
def tyIs (H : Hp) (x : V) (n : String) : Prop := match x with
  | .non => n = "NoneType"
  | .bl _ => n = "bool"
  | .int _ => n = "int"
  | .str _ => n = "str"
  | .ref a => (match H a with
    | some (.lst _) => n = "list"
    | some (.tup _) => n = "tuple"
    | some (.dK _) => n = "dict"
    | _ => False)
  | _ => False
theorem tyIs.uni {H : Hp} {x : V} {n m : String} (h : tyIs H x n) (h' : tyIs H x m) : n = m := by
  unfold tyIs at h h'
  cases x with
  | ref a =>
    simp only at h h'
    split at h <;> first | exact h.elim | (rename_i e; simp only [e] at h'; rw [h, h'])
  | non => rw [h, h']
  | bl _ => rw [h, h']
  | int _ => rw [h, h']
  | str _ => rw [h, h']
  | _ => exact h.elim
theorem is_eq {H : Hp} {x : V} {n T : String} {b : Bool} {Q : VK} (hn : tyIs H x n) (hk : kitB n T = some b) : rIs T [x, .ty T] H Q = Q (.bl b) H := by
  refine propext ⟨?_, fun q => ⟨_, _, rfl, ⟨n, hn, hk⟩, q⟩⟩
  rintro ⟨y, b', e, ⟨m, hm, hk'⟩, q⟩
  have e' := (List.cons.inj e).1
  subst e'
  have hm' : tyIs H x m := hm
  have e2 := hn.uni hm'
  subst e2
  rw [hk] at hk'
  cases hk'
  exact q
theorem tyIs.lst {H : Hp} {a : Addr} {xs : List V} (h : H a = some (.lst xs)) : tyIs H (.ref a) "list" := by unfold tyIs; simp only [h]
theorem tyIs.tup {H : Hp} {a : Addr} {xs : List V} (h : H a = some (.tup xs)) : tyIs H (.ref a) "tuple" := by unfold tyIs; simp only [h]
theorem tyIs.dic {H : Hp} {a : Addr} {xs : List (Key × V)} (h : H a = some (.dK xs)) : tyIs H (.ref a) "dict" := by unfold tyIs; simp only [h]
section
variable {H : Hp} {a : Addr} {xs : List V} {i : Int} {z : Str} {b : Bool} {Q : VK}
theorem is_NoneType_bool : rIs "bool" [.non, .ty "bool"] H Q = Q (.bl false) H := is_eq (show tyIs H (.non) "NoneType" from rfl) (by decide +kernel)
theorem is_NoneType_int : rIs "int" [.non, .ty "int"] H Q = Q (.bl false) H := is_eq (show tyIs H (.non) "NoneType" from rfl) (by decide +kernel)
theorem is_NoneType_str : rIs "str" [.non, .ty "str"] H Q = Q (.bl false) H := is_eq (show tyIs H (.non) "NoneType" from rfl) (by decide +kernel)
theorem is_NoneType_list : rIs "list" [.non, .ty "list"] H Q = Q (.bl false) H := is_eq (show tyIs H (.non) "NoneType" from rfl) (by decide +kernel)
theorem is_NoneType_tuple : rIs "tuple" [.non, .ty "tuple"] H Q = Q (.bl false) H := is_eq (show tyIs H (.non) "NoneType" from rfl) (by decide +kernel)
theorem is_bool_bool : rIs "bool" [.bl b, .ty "bool"] H Q = Q (.bl true) H := is_eq (show tyIs H (.bl b) "bool" from rfl) (by decide +kernel)
theorem is_bool_int : rIs "int" [.bl b, .ty "int"] H Q = Q (.bl true) H := is_eq (show tyIs H (.bl b) "bool" from rfl) (by decide +kernel)
theorem is_bool_str : rIs "str" [.bl b, .ty "str"] H Q = Q (.bl false) H := is_eq (show tyIs H (.bl b) "bool" from rfl) (by decide +kernel)
theorem is_bool_list : rIs "list" [.bl b, .ty "list"] H Q = Q (.bl false) H := is_eq (show tyIs H (.bl b) "bool" from rfl) (by decide +kernel)
theorem is_bool_tuple : rIs "tuple" [.bl b, .ty "tuple"] H Q = Q (.bl false) H := is_eq (show tyIs H (.bl b) "bool" from rfl) (by decide +kernel)
theorem is_int_bool : rIs "bool" [.int i, .ty "bool"] H Q = Q (.bl false) H := is_eq (show tyIs H (.int i) "int" from rfl) (by decide +kernel)
theorem is_int_int : rIs "int" [.int i, .ty "int"] H Q = Q (.bl true) H := is_eq (show tyIs H (.int i) "int" from rfl) (by decide +kernel)
theorem is_int_str : rIs "str" [.int i, .ty "str"] H Q = Q (.bl false) H := is_eq (show tyIs H (.int i) "int" from rfl) (by decide +kernel)
theorem is_int_list : rIs "list" [.int i, .ty "list"] H Q = Q (.bl false) H := is_eq (show tyIs H (.int i) "int" from rfl) (by decide +kernel)
theorem is_int_tuple : rIs "tuple" [.int i, .ty "tuple"] H Q = Q (.bl false) H := is_eq (show tyIs H (.int i) "int" from rfl) (by decide +kernel)
theorem is_str_bool : rIs "bool" [.str z, .ty "bool"] H Q = Q (.bl false) H := is_eq (show tyIs H (.str z) "str" from rfl) (by decide +kernel)
theorem is_str_int : rIs "int" [.str z, .ty "int"] H Q = Q (.bl false) H := is_eq (show tyIs H (.str z) "str" from rfl) (by decide +kernel)
theorem is_str_str : rIs "str" [.str z, .ty "str"] H Q = Q (.bl true) H := is_eq (show tyIs H (.str z) "str" from rfl) (by decide +kernel)
theorem is_str_list : rIs "list" [.str z, .ty "list"] H Q = Q (.bl false) H := is_eq (show tyIs H (.str z) "str" from rfl) (by decide +kernel)
theorem is_str_tuple : rIs "tuple" [.str z, .ty "tuple"] H Q = Q (.bl false) H := is_eq (show tyIs H (.str z) "str" from rfl) (by decide +kernel)
theorem is_list_bool (h : H a = some (.lst xs)) : rIs "bool" [.ref a, .ty "bool"] H Q = Q (.bl false) H := is_eq (tyIs.lst h) (by decide +kernel)
theorem is_list_int (h : H a = some (.lst xs)) : rIs "int" [.ref a, .ty "int"] H Q = Q (.bl false) H := is_eq (tyIs.lst h) (by decide +kernel)
theorem is_list_str (h : H a = some (.lst xs)) : rIs "str" [.ref a, .ty "str"] H Q = Q (.bl false) H := is_eq (tyIs.lst h) (by decide +kernel)
theorem is_list_list (h : H a = some (.lst xs)) : rIs "list" [.ref a, .ty "list"] H Q = Q (.bl true) H := is_eq (tyIs.lst h) (by decide +kernel)
theorem is_list_tuple (h : H a = some (.lst xs)) : rIs "tuple" [.ref a, .ty "tuple"] H Q = Q (.bl false) H := is_eq (tyIs.lst h) (by decide +kernel)
theorem is_tuple_bool (h : H a = some (.tup xs)) : rIs "bool" [.ref a, .ty "bool"] H Q = Q (.bl false) H := is_eq (tyIs.tup h) (by decide +kernel)
theorem is_tuple_int (h : H a = some (.tup xs)) : rIs "int" [.ref a, .ty "int"] H Q = Q (.bl false) H := is_eq (tyIs.tup h) (by decide +kernel)
theorem is_tuple_str (h : H a = some (.tup xs)) : rIs "str" [.ref a, .ty "str"] H Q = Q (.bl false) H := is_eq (tyIs.tup h) (by decide +kernel)
theorem is_tuple_list (h : H a = some (.tup xs)) : rIs "list" [.ref a, .ty "list"] H Q = Q (.bl false) H := is_eq (tyIs.tup h) (by decide +kernel)
theorem is_tuple_tuple (h : H a = some (.tup xs)) : rIs "tuple" [.ref a, .ty "tuple"] H Q = Q (.bl true) H := is_eq (tyIs.tup h) (by decide +kernel)
end
theorem RpAll.item {H : Hp} {vs : List V} {ds : List PyData} {i : Nat} (r : RpAll H vs ds) (h : i < ds.length) : ∃ v, vs[i]? = some v ∧ Rp H v ds[i] := r.get (List.getElem?_eq_getElem h)
theorem depth_lt_list {ds : List PyData} {n : Nat} (h : PyData.depthAll ds < n) : ∀ d ∈ ds, d.depth < n := by
  induction ds with
  | nil => intro d hd; cases hd
  | cons a r ih =>
    simp only [PyData.depthAll] at h
    intro d hd
    rcases List.mem_cons.mp hd with rfl | hd
    · omega
    · exact ih (by omega) d hd
/-- the items, one by one -/
theorem alike_loop {n : Nat} {x y : Addr} {xs ys : List V} {ds : List PyData} {H : Hp} {Q : VK} (hx : H x = some (.lst xs) ∨ H x = some (.tup xs)) (hy : H y = some (.lst ys) ∨ H y = some (.tup ys)) (rx : RpAll H xs ds) (ry : RpAll H ys ds)
    (hd : ∀ d ∈ ds, d.depth < n) (k : Q (.bl true) H) {K : PySem.W.Frag} (hz : ys.length < 4611686018427387904) :
    tSeq (tFor (iRng1 (tCons (tCB rLenQ (tCons (tVar 1) tNil)) tNil)) (gName 2)
      (tIfS (tNot (tB (tCall (sp_L_alike n) [] E0 (tCons (tOp rXQ (tVar 0) (tVar 2)) (tCons (tOp rXQ (tVar 1) (tVar 2)) tNil))))) (tRet (tC (.bl false))) tNext))
      (tRet (tC (.bl true))) { nx := fun _ H' => Q .non H', rt := Q } [some (.ref x), some (.ref y), none] H := by
  refine st_seq (forR (n := (ys.length : Int)) (fun R h => ⟨_, rfl, y, ys, rfl, hy, h⟩) (by omega) (by omega) (fun _ σ' H' => H' = H ∧ σ'[0]? = some (some (.ref x)) ∧ σ'[1]? = some (some (.ref y)) ∧ 2 < σ'.length) ⟨rfl, rfl, rfl, by simp⟩ ?_ ?_)
  · rintro i σ' H' hi ⟨rfl, g0, g1, g2⟩
    have e1 := rx.length
    have e2 := ry.length
    have hi' : i < ds.length := by omega
    obtain ⟨v, hv, rv⟩ := rx.item hi'
    obtain ⟨u, hu, ru⟩ := ry.item hi'
    have s0 : (σ'.set 2 (some (V.int (i : Int))))[0]? = some (some (.ref x)) := by simp [g0]
    have s1 : (σ'.set 2 (some (V.int (i : Int))))[1]? = some (some (.ref y)) := by simp [g1]
    have s2 : (σ'.set 2 (some (V.int (i : Int))))[2]? = some (some (.int (i : Int))) := by simp [g2]
    refine ⟨_, s0, _, s2, x, xs, _, v, rfl, rfl, hx, atI_nat hv, ?_⟩
    refine ⟨_, s1, _, s2, y, ys, _, u, rfl, rfl, hy, atI_nat hu, ?_⟩
    refine ⟨v, u, ds[i], rfl, rv, ru, hd _ (List.getElem_mem hi'), true, rfl, ?_⟩
    exact iteF ⟨rfl, s0, s1, by simpa using g2⟩
  · rintro σ' H' ⟨rfl, _⟩
    exact k
theorem ite_of {p : Prop} {c : Prop} [Decidable c] {q : Prop} (h : c) (k : p) : if c then p else q := by rw [if_pos h]; exact k
theorem rd_L_alike {K : PySem.W.Frag} {n : Nat} {vs : List V} {H : Hp} {Q : VK} {E : XK} (h : sp_L_alike (n + 1) vs H Q E) (hw : HSz H) : t_L_alike K n { nx := fun _ H' => Q .non H', rt := Q } (start ["_", "_", "_"] vs) H := by
  obtain ⟨x, y, d, rfl, hx, hy, hd, k⟩ := h
  show t_L_alike K n _ [some x, some y, none] H
  unfold t_L_alike
  refine st_seq ?_
  cases d with
  | none =>
    cases hx; cases hy
    simp only [tIfS, tRet, tRetN, tAsg, gName, gSub, gCons, gNil, gTup, tDrop, tNext, tVar, tC, tOp, tUn, tTest, tB, tAnd, tOr, tNot, tAndV, tOrV, tNotV, tIf, tCons, tNil, xLst, xTup, xDic, tCB, tCall, tChain, tSl, tPart, tNoPart, rI, rI0, rU, rEq, rNe, scal, rXL, rXT, rXQ, rLenL, rLenT, rLenS, rLenQ, rInt1, rTupL, rLstL, rIsN, rNotN, rInT, rAddS, rLtS, rInS1, rNinS1, rIxS, rSlS, rStL, rCt, rSL, tApp, tPopAt, tPopL, tJoinL, tIndex, ixN0, ixN1, ixN2, ixN3, atI0, atI1, atI2, atI3, eqV_str, eqV_int, eqV_is, eqV_si, inV_nil, inV_cons, flatV, List.all_cons, List.all_nil, wd_eq, wd_ne0, wd_ne0', List.getElem?_cons_zero, List.getElem?_cons_succ, List.set_cons_zero, List.set_cons_succ, List.cons_append, List.nil_append, List.append_nil, Nat.reduceAdd, Nat.reduceLT, Option.some.injEq, V.int.injEq, V.str.injEq, V.bl.injEq, V.ref.injEq, HO.lst.injEq, HO.tup.injEq, HO.dK.injEq, List.cons.injEq, exists_eq_left, exists_eq_left', exists_eq_right, exists_eq_right', exists_and_left, exists_and_right, exists_const, exists_eq, exists_eq', and_assoc, true_and, and_true, false_and, and_false, true_or, or_true, false_or, or_false, reduceCtorEq, not_true_eq_false, not_false_eq_true, decide_true, decide_false, decide_eq_true_eq, decide_not, Bool.not_true, Bool.not_false, Bool.false_eq_true, Bool.true_and, Bool.and_true, Bool.false_and, Bool.and_false, Bool.true_or, Bool.or_true, Bool.false_or, Bool.or_false, if_true, if_false, ite_true, ite_false, Nat.reduceEqDiff, exists_false, eq_self, upd_same, Bool.not_eq_true', decide_eq_false_iff_not]
    exact k
  | bool b =>
    cases hx; cases hy
    simp only [tIfS, tRet, tRetN, tAsg, gName, gSub, gCons, gNil, gTup, tDrop, tNext, tVar, tC, tOp, tUn, tTest, tB, tAnd, tOr, tNot, tAndV, tOrV, tNotV, tIf, tCons, tNil, xLst, xTup, xDic, tCB, tCall, tChain, tSl, tPart, tNoPart, rI, rI0, rU, rEq, rNe, scal, rXL, rXT, rXQ, rLenL, rLenT, rLenS, rLenQ, rInt1, rTupL, rLstL, rIsN, rNotN, rInT, rAddS, rLtS, rInS1, rNinS1, rIxS, rSlS, rStL, rCt, rSL, tApp, tPopAt, tPopL, tJoinL, tIndex, ixN0, ixN1, ixN2, ixN3, atI0, atI1, atI2, atI3, eqV_str, eqV_int, eqV_is, eqV_si, inV_nil, inV_cons, flatV, List.all_cons, List.all_nil, wd_eq, wd_ne0, wd_ne0', List.getElem?_cons_zero, List.getElem?_cons_succ, List.set_cons_zero, List.set_cons_succ, List.cons_append, List.nil_append, List.append_nil, Nat.reduceAdd, Nat.reduceLT, Option.some.injEq, V.int.injEq, V.str.injEq, V.bl.injEq, V.ref.injEq, HO.lst.injEq, HO.tup.injEq, HO.dK.injEq, List.cons.injEq, exists_eq_left, exists_eq_left', exists_eq_right, exists_eq_right', exists_and_left, exists_and_right, exists_const, exists_eq, exists_eq', and_assoc, true_and, and_true, false_and, and_false, true_or, or_true, false_or, or_false, reduceCtorEq, not_true_eq_false, not_false_eq_true, decide_true, decide_false, decide_eq_true_eq, decide_not, Bool.not_true, Bool.not_false, Bool.false_eq_true, Bool.true_and, Bool.and_true, Bool.false_and, Bool.and_false, Bool.true_or, Bool.or_true, Bool.false_or, Bool.or_false, if_true, if_false, ite_true, ite_false, Nat.reduceEqDiff, exists_false, eq_self, upd_same, Bool.not_eq_true', decide_eq_false_iff_not]
    refine st_seq ?_
    simp only [tIfS, tRet, tRetN, tAsg, gName, gSub, gCons, gNil, gTup, tDrop, tNext, tVar, tC, tOp, tUn, tTest, tB, tAnd, tOr, tNot, tAndV, tOrV, tNotV, tIf, tCons, tNil, xLst, xTup, xDic, tCB, tCall, tChain, tSl, tPart, tNoPart, rI, rI0, rU, rEq, rNe, scal, rXL, rXT, rXQ, rLenL, rLenT, rLenS, rLenQ, rInt1, rTupL, rLstL, rIsN, rNotN, rInT, rAddS, rLtS, rInS1, rNinS1, rIxS, rSlS, rStL, rCt, rSL, tApp, tPopAt, tPopL, tJoinL, tIndex, ixN0, ixN1, ixN2, ixN3, atI0, atI1, atI2, atI3, eqV_str, eqV_int, eqV_is, eqV_si, inV_nil, inV_cons, flatV, List.all_cons, List.all_nil, wd_eq, wd_ne0, wd_ne0', List.getElem?_cons_zero, List.getElem?_cons_succ, List.set_cons_zero, List.set_cons_succ, List.cons_append, List.nil_append, List.append_nil, Nat.reduceAdd, Nat.reduceLT, Option.some.injEq, V.int.injEq, V.str.injEq, V.bl.injEq, V.ref.injEq, HO.lst.injEq, HO.tup.injEq, HO.dK.injEq, List.cons.injEq, exists_eq_left, exists_eq_left', exists_eq_right, exists_eq_right', exists_and_left, exists_and_right, exists_const, exists_eq, exists_eq', and_assoc, true_and, and_true, false_and, and_false, true_or, or_true, false_or, or_false, reduceCtorEq, not_true_eq_false, not_false_eq_true, decide_true, decide_false, decide_eq_true_eq, decide_not, Bool.not_true, Bool.not_false, Bool.false_eq_true, Bool.true_and, Bool.and_true, Bool.false_and, Bool.and_false, Bool.true_or, Bool.or_true, Bool.false_or, Bool.or_false, if_true, if_false, ite_true, ite_false, Nat.reduceEqDiff, exists_false, eq_self, upd_same, Bool.not_eq_true', decide_eq_false_iff_not, is_bool_bool]
    exact k
  | int i =>
    cases hx; cases hy
    simp only [tIfS, tRet, tRetN, tAsg, gName, gSub, gCons, gNil, gTup, tDrop, tNext, tVar, tC, tOp, tUn, tTest, tB, tAnd, tOr, tNot, tAndV, tOrV, tNotV, tIf, tCons, tNil, xLst, xTup, xDic, tCB, tCall, tChain, tSl, tPart, tNoPart, rI, rI0, rU, rEq, rNe, scal, rXL, rXT, rXQ, rLenL, rLenT, rLenS, rLenQ, rInt1, rTupL, rLstL, rIsN, rNotN, rInT, rAddS, rLtS, rInS1, rNinS1, rIxS, rSlS, rStL, rCt, rSL, tApp, tPopAt, tPopL, tJoinL, tIndex, ixN0, ixN1, ixN2, ixN3, atI0, atI1, atI2, atI3, eqV_str, eqV_int, eqV_is, eqV_si, inV_nil, inV_cons, flatV, List.all_cons, List.all_nil, wd_eq, wd_ne0, wd_ne0', List.getElem?_cons_zero, List.getElem?_cons_succ, List.set_cons_zero, List.set_cons_succ, List.cons_append, List.nil_append, List.append_nil, Nat.reduceAdd, Nat.reduceLT, Option.some.injEq, V.int.injEq, V.str.injEq, V.bl.injEq, V.ref.injEq, HO.lst.injEq, HO.tup.injEq, HO.dK.injEq, List.cons.injEq, exists_eq_left, exists_eq_left', exists_eq_right, exists_eq_right', exists_and_left, exists_and_right, exists_const, exists_eq, exists_eq', and_assoc, true_and, and_true, false_and, and_false, true_or, or_true, false_or, or_false, reduceCtorEq, not_true_eq_false, not_false_eq_true, decide_true, decide_false, decide_eq_true_eq, decide_not, Bool.not_true, Bool.not_false, Bool.false_eq_true, Bool.true_and, Bool.and_true, Bool.false_and, Bool.and_false, Bool.true_or, Bool.or_true, Bool.false_or, Bool.or_false, if_true, if_false, ite_true, ite_false, Nat.reduceEqDiff, exists_false, eq_self, upd_same, Bool.not_eq_true', decide_eq_false_iff_not]
    refine st_seq ?_
    simp only [tIfS, tRet, tRetN, tAsg, gName, gSub, gCons, gNil, gTup, tDrop, tNext, tVar, tC, tOp, tUn, tTest, tB, tAnd, tOr, tNot, tAndV, tOrV, tNotV, tIf, tCons, tNil, xLst, xTup, xDic, tCB, tCall, tChain, tSl, tPart, tNoPart, rI, rI0, rU, rEq, rNe, scal, rXL, rXT, rXQ, rLenL, rLenT, rLenS, rLenQ, rInt1, rTupL, rLstL, rIsN, rNotN, rInT, rAddS, rLtS, rInS1, rNinS1, rIxS, rSlS, rStL, rCt, rSL, tApp, tPopAt, tPopL, tJoinL, tIndex, ixN0, ixN1, ixN2, ixN3, atI0, atI1, atI2, atI3, eqV_str, eqV_int, eqV_is, eqV_si, inV_nil, inV_cons, flatV, List.all_cons, List.all_nil, wd_eq, wd_ne0, wd_ne0', List.getElem?_cons_zero, List.getElem?_cons_succ, List.set_cons_zero, List.set_cons_succ, List.cons_append, List.nil_append, List.append_nil, Nat.reduceAdd, Nat.reduceLT, Option.some.injEq, V.int.injEq, V.str.injEq, V.bl.injEq, V.ref.injEq, HO.lst.injEq, HO.tup.injEq, HO.dK.injEq, List.cons.injEq, exists_eq_left, exists_eq_left', exists_eq_right, exists_eq_right', exists_and_left, exists_and_right, exists_const, exists_eq, exists_eq', and_assoc, true_and, and_true, false_and, and_false, true_or, or_true, false_or, or_false, reduceCtorEq, not_true_eq_false, not_false_eq_true, decide_true, decide_false, decide_eq_true_eq, decide_not, Bool.not_true, Bool.not_false, Bool.false_eq_true, Bool.true_and, Bool.and_true, Bool.false_and, Bool.and_false, Bool.true_or, Bool.or_true, Bool.false_or, Bool.or_false, if_true, if_false, ite_true, ite_false, Nat.reduceEqDiff, exists_false, eq_self, upd_same, Bool.not_eq_true', decide_eq_false_iff_not, is_int_bool]
    refine st_seq ?_
    simp only [tIfS, tRet, tRetN, tAsg, gName, gSub, gCons, gNil, gTup, tDrop, tNext, tVar, tC, tOp, tUn, tTest, tB, tAnd, tOr, tNot, tAndV, tOrV, tNotV, tIf, tCons, tNil, xLst, xTup, xDic, tCB, tCall, tChain, tSl, tPart, tNoPart, rI, rI0, rU, rEq, rNe, scal, rXL, rXT, rXQ, rLenL, rLenT, rLenS, rLenQ, rInt1, rTupL, rLstL, rIsN, rNotN, rInT, rAddS, rLtS, rInS1, rNinS1, rIxS, rSlS, rStL, rCt, rSL, tApp, tPopAt, tPopL, tJoinL, tIndex, ixN0, ixN1, ixN2, ixN3, atI0, atI1, atI2, atI3, eqV_str, eqV_int, eqV_is, eqV_si, inV_nil, inV_cons, flatV, List.all_cons, List.all_nil, wd_eq, wd_ne0, wd_ne0', List.getElem?_cons_zero, List.getElem?_cons_succ, List.set_cons_zero, List.set_cons_succ, List.cons_append, List.nil_append, List.append_nil, Nat.reduceAdd, Nat.reduceLT, Option.some.injEq, V.int.injEq, V.str.injEq, V.bl.injEq, V.ref.injEq, HO.lst.injEq, HO.tup.injEq, HO.dK.injEq, List.cons.injEq, exists_eq_left, exists_eq_left', exists_eq_right, exists_eq_right', exists_and_left, exists_and_right, exists_const, exists_eq, exists_eq', and_assoc, true_and, and_true, false_and, and_false, true_or, or_true, false_or, or_false, reduceCtorEq, not_true_eq_false, not_false_eq_true, decide_true, decide_false, decide_eq_true_eq, decide_not, Bool.not_true, Bool.not_false, Bool.false_eq_true, Bool.true_and, Bool.and_true, Bool.false_and, Bool.and_false, Bool.true_or, Bool.or_true, Bool.false_or, Bool.or_false, if_true, if_false, ite_true, ite_false, Nat.reduceEqDiff, exists_false, eq_self, upd_same, Bool.not_eq_true', decide_eq_false_iff_not, is_int_bool, is_int_int]
    exact k
  | str z =>
    cases hx; cases hy
    simp only [tIfS, tRet, tRetN, tAsg, gName, gSub, gCons, gNil, gTup, tDrop, tNext, tVar, tC, tOp, tUn, tTest, tB, tAnd, tOr, tNot, tAndV, tOrV, tNotV, tIf, tCons, tNil, xLst, xTup, xDic, tCB, tCall, tChain, tSl, tPart, tNoPart, rI, rI0, rU, rEq, rNe, scal, rXL, rXT, rXQ, rLenL, rLenT, rLenS, rLenQ, rInt1, rTupL, rLstL, rIsN, rNotN, rInT, rAddS, rLtS, rInS1, rNinS1, rIxS, rSlS, rStL, rCt, rSL, tApp, tPopAt, tPopL, tJoinL, tIndex, ixN0, ixN1, ixN2, ixN3, atI0, atI1, atI2, atI3, eqV_str, eqV_int, eqV_is, eqV_si, inV_nil, inV_cons, flatV, List.all_cons, List.all_nil, wd_eq, wd_ne0, wd_ne0', List.getElem?_cons_zero, List.getElem?_cons_succ, List.set_cons_zero, List.set_cons_succ, List.cons_append, List.nil_append, List.append_nil, Nat.reduceAdd, Nat.reduceLT, Option.some.injEq, V.int.injEq, V.str.injEq, V.bl.injEq, V.ref.injEq, HO.lst.injEq, HO.tup.injEq, HO.dK.injEq, List.cons.injEq, exists_eq_left, exists_eq_left', exists_eq_right, exists_eq_right', exists_and_left, exists_and_right, exists_const, exists_eq, exists_eq', and_assoc, true_and, and_true, false_and, and_false, true_or, or_true, false_or, or_false, reduceCtorEq, not_true_eq_false, not_false_eq_true, decide_true, decide_false, decide_eq_true_eq, decide_not, Bool.not_true, Bool.not_false, Bool.false_eq_true, Bool.true_and, Bool.and_true, Bool.false_and, Bool.and_false, Bool.true_or, Bool.or_true, Bool.false_or, Bool.or_false, if_true, if_false, ite_true, ite_false, Nat.reduceEqDiff, exists_false, eq_self, upd_same, Bool.not_eq_true', decide_eq_false_iff_not]
    refine st_seq ?_
    simp only [tIfS, tRet, tRetN, tAsg, gName, gSub, gCons, gNil, gTup, tDrop, tNext, tVar, tC, tOp, tUn, tTest, tB, tAnd, tOr, tNot, tAndV, tOrV, tNotV, tIf, tCons, tNil, xLst, xTup, xDic, tCB, tCall, tChain, tSl, tPart, tNoPart, rI, rI0, rU, rEq, rNe, scal, rXL, rXT, rXQ, rLenL, rLenT, rLenS, rLenQ, rInt1, rTupL, rLstL, rIsN, rNotN, rInT, rAddS, rLtS, rInS1, rNinS1, rIxS, rSlS, rStL, rCt, rSL, tApp, tPopAt, tPopL, tJoinL, tIndex, ixN0, ixN1, ixN2, ixN3, atI0, atI1, atI2, atI3, eqV_str, eqV_int, eqV_is, eqV_si, inV_nil, inV_cons, flatV, List.all_cons, List.all_nil, wd_eq, wd_ne0, wd_ne0', List.getElem?_cons_zero, List.getElem?_cons_succ, List.set_cons_zero, List.set_cons_succ, List.cons_append, List.nil_append, List.append_nil, Nat.reduceAdd, Nat.reduceLT, Option.some.injEq, V.int.injEq, V.str.injEq, V.bl.injEq, V.ref.injEq, HO.lst.injEq, HO.tup.injEq, HO.dK.injEq, List.cons.injEq, exists_eq_left, exists_eq_left', exists_eq_right, exists_eq_right', exists_and_left, exists_and_right, exists_const, exists_eq, exists_eq', and_assoc, true_and, and_true, false_and, and_false, true_or, or_true, false_or, or_false, reduceCtorEq, not_true_eq_false, not_false_eq_true, decide_true, decide_false, decide_eq_true_eq, decide_not, Bool.not_true, Bool.not_false, Bool.false_eq_true, Bool.true_and, Bool.and_true, Bool.false_and, Bool.and_false, Bool.true_or, Bool.or_true, Bool.false_or, Bool.or_false, if_true, if_false, ite_true, ite_false, Nat.reduceEqDiff, exists_false, eq_self, upd_same, Bool.not_eq_true', decide_eq_false_iff_not, is_str_bool]
    refine st_seq ?_
    simp only [tIfS, tRet, tRetN, tAsg, gName, gSub, gCons, gNil, gTup, tDrop, tNext, tVar, tC, tOp, tUn, tTest, tB, tAnd, tOr, tNot, tAndV, tOrV, tNotV, tIf, tCons, tNil, xLst, xTup, xDic, tCB, tCall, tChain, tSl, tPart, tNoPart, rI, rI0, rU, rEq, rNe, scal, rXL, rXT, rXQ, rLenL, rLenT, rLenS, rLenQ, rInt1, rTupL, rLstL, rIsN, rNotN, rInT, rAddS, rLtS, rInS1, rNinS1, rIxS, rSlS, rStL, rCt, rSL, tApp, tPopAt, tPopL, tJoinL, tIndex, ixN0, ixN1, ixN2, ixN3, atI0, atI1, atI2, atI3, eqV_str, eqV_int, eqV_is, eqV_si, inV_nil, inV_cons, flatV, List.all_cons, List.all_nil, wd_eq, wd_ne0, wd_ne0', List.getElem?_cons_zero, List.getElem?_cons_succ, List.set_cons_zero, List.set_cons_succ, List.cons_append, List.nil_append, List.append_nil, Nat.reduceAdd, Nat.reduceLT, Option.some.injEq, V.int.injEq, V.str.injEq, V.bl.injEq, V.ref.injEq, HO.lst.injEq, HO.tup.injEq, HO.dK.injEq, List.cons.injEq, exists_eq_left, exists_eq_left', exists_eq_right, exists_eq_right', exists_and_left, exists_and_right, exists_const, exists_eq, exists_eq', and_assoc, true_and, and_true, false_and, and_false, true_or, or_true, false_or, or_false, reduceCtorEq, not_true_eq_false, not_false_eq_true, decide_true, decide_false, decide_eq_true_eq, decide_not, Bool.not_true, Bool.not_false, Bool.false_eq_true, Bool.true_and, Bool.and_true, Bool.false_and, Bool.and_false, Bool.true_or, Bool.or_true, Bool.false_or, Bool.or_false, if_true, if_false, ite_true, ite_false, Nat.reduceEqDiff, exists_false, eq_self, upd_same, Bool.not_eq_true', decide_eq_false_iff_not, is_str_int]
    refine st_seq ?_
    simp only [tIfS, tRet, tRetN, tAsg, gName, gSub, gCons, gNil, gTup, tDrop, tNext, tVar, tC, tOp, tUn, tTest, tB, tAnd, tOr, tNot, tAndV, tOrV, tNotV, tIf, tCons, tNil, xLst, xTup, xDic, tCB, tCall, tChain, tSl, tPart, tNoPart, rI, rI0, rU, rEq, rNe, scal, rXL, rXT, rXQ, rLenL, rLenT, rLenS, rLenQ, rInt1, rTupL, rLstL, rIsN, rNotN, rInT, rAddS, rLtS, rInS1, rNinS1, rIxS, rSlS, rStL, rCt, rSL, tApp, tPopAt, tPopL, tJoinL, tIndex, ixN0, ixN1, ixN2, ixN3, atI0, atI1, atI2, atI3, eqV_str, eqV_int, eqV_is, eqV_si, inV_nil, inV_cons, flatV, List.all_cons, List.all_nil, wd_eq, wd_ne0, wd_ne0', List.getElem?_cons_zero, List.getElem?_cons_succ, List.set_cons_zero, List.set_cons_succ, List.cons_append, List.nil_append, List.append_nil, Nat.reduceAdd, Nat.reduceLT, Option.some.injEq, V.int.injEq, V.str.injEq, V.bl.injEq, V.ref.injEq, HO.lst.injEq, HO.tup.injEq, HO.dK.injEq, List.cons.injEq, exists_eq_left, exists_eq_left', exists_eq_right, exists_eq_right', exists_and_left, exists_and_right, exists_const, exists_eq, exists_eq', and_assoc, true_and, and_true, false_and, and_false, true_or, or_true, false_or, or_false, reduceCtorEq, not_true_eq_false, not_false_eq_true, decide_true, decide_false, decide_eq_true_eq, decide_not, Bool.not_true, Bool.not_false, Bool.false_eq_true, Bool.true_and, Bool.and_true, Bool.false_and, Bool.and_false, Bool.true_or, Bool.or_true, Bool.false_or, Bool.or_false, if_true, if_false, ite_true, ite_false, Nat.reduceEqDiff, exists_false, eq_self, upd_same, Bool.not_eq_true', decide_eq_false_iff_not, is_str_str]
    exact k
  | list ds =>
    cases hx with | lst hx rx => ?_
    cases hy with | lst hy ry => ?_
    simp only [tIfS, tRet, tRetN, tAsg, gName, gSub, gCons, gNil, gTup, tDrop, tNext, tVar, tC, tOp, tUn, tTest, tB, tAnd, tOr, tNot, tAndV, tOrV, tNotV, tIf, tCons, tNil, xLst, xTup, xDic, tCB, tCall, tChain, tSl, tPart, tNoPart, rI, rI0, rU, rEq, rNe, scal, rXL, rXT, rXQ, rLenL, rLenT, rLenS, rLenQ, rInt1, rTupL, rLstL, rIsN, rNotN, rInT, rAddS, rLtS, rInS1, rNinS1, rIxS, rSlS, rStL, rCt, rSL, tApp, tPopAt, tPopL, tJoinL, tIndex, ixN0, ixN1, ixN2, ixN3, atI0, atI1, atI2, atI3, eqV_str, eqV_int, eqV_is, eqV_si, inV_nil, inV_cons, flatV, List.all_cons, List.all_nil, wd_eq, wd_ne0, wd_ne0', List.getElem?_cons_zero, List.getElem?_cons_succ, List.set_cons_zero, List.set_cons_succ, List.cons_append, List.nil_append, List.append_nil, Nat.reduceAdd, Nat.reduceLT, Option.some.injEq, V.int.injEq, V.str.injEq, V.bl.injEq, V.ref.injEq, HO.lst.injEq, HO.tup.injEq, HO.dK.injEq, List.cons.injEq, exists_eq_left, exists_eq_left', exists_eq_right, exists_eq_right', exists_and_left, exists_and_right, exists_const, exists_eq, exists_eq', and_assoc, true_and, and_true, false_and, and_false, true_or, or_true, false_or, or_false, reduceCtorEq, not_true_eq_false, not_false_eq_true, decide_true, decide_false, decide_eq_true_eq, decide_not, Bool.not_true, Bool.not_false, Bool.false_eq_true, Bool.true_and, Bool.and_true, Bool.false_and, Bool.and_false, Bool.true_or, Bool.or_true, Bool.false_or, Bool.or_false, if_true, if_false, ite_true, ite_false, Nat.reduceEqDiff, exists_false, eq_self, upd_same, Bool.not_eq_true', decide_eq_false_iff_not]
    refine st_seq ?_
    simp only [tIfS, tRet, tRetN, tAsg, gName, gSub, gCons, gNil, gTup, tDrop, tNext, tVar, tC, tOp, tUn, tTest, tB, tAnd, tOr, tNot, tAndV, tOrV, tNotV, tIf, tCons, tNil, xLst, xTup, xDic, tCB, tCall, tChain, tSl, tPart, tNoPart, rI, rI0, rU, rEq, rNe, scal, rXL, rXT, rXQ, rLenL, rLenT, rLenS, rLenQ, rInt1, rTupL, rLstL, rIsN, rNotN, rInT, rAddS, rLtS, rInS1, rNinS1, rIxS, rSlS, rStL, rCt, rSL, tApp, tPopAt, tPopL, tJoinL, tIndex, ixN0, ixN1, ixN2, ixN3, atI0, atI1, atI2, atI3, eqV_str, eqV_int, eqV_is, eqV_si, inV_nil, inV_cons, flatV, List.all_cons, List.all_nil, wd_eq, wd_ne0, wd_ne0', List.getElem?_cons_zero, List.getElem?_cons_succ, List.set_cons_zero, List.set_cons_succ, List.cons_append, List.nil_append, List.append_nil, Nat.reduceAdd, Nat.reduceLT, Option.some.injEq, V.int.injEq, V.str.injEq, V.bl.injEq, V.ref.injEq, HO.lst.injEq, HO.tup.injEq, HO.dK.injEq, List.cons.injEq, exists_eq_left, exists_eq_left', exists_eq_right, exists_eq_right', exists_and_left, exists_and_right, exists_const, exists_eq, exists_eq', and_assoc, true_and, and_true, false_and, and_false, true_or, or_true, false_or, or_false, reduceCtorEq, not_true_eq_false, not_false_eq_true, decide_true, decide_false, decide_eq_true_eq, decide_not, Bool.not_true, Bool.not_false, Bool.false_eq_true, Bool.true_and, Bool.and_true, Bool.false_and, Bool.and_false, Bool.true_or, Bool.or_true, Bool.false_or, Bool.or_false, if_true, if_false, ite_true, ite_false, Nat.reduceEqDiff, exists_false, eq_self, upd_same, Bool.not_eq_true', decide_eq_false_iff_not, is_list_bool hy]
    refine st_seq ?_
    simp only [tIfS, tRet, tRetN, tAsg, gName, gSub, gCons, gNil, gTup, tDrop, tNext, tVar, tC, tOp, tUn, tTest, tB, tAnd, tOr, tNot, tAndV, tOrV, tNotV, tIf, tCons, tNil, xLst, xTup, xDic, tCB, tCall, tChain, tSl, tPart, tNoPart, rI, rI0, rU, rEq, rNe, scal, rXL, rXT, rXQ, rLenL, rLenT, rLenS, rLenQ, rInt1, rTupL, rLstL, rIsN, rNotN, rInT, rAddS, rLtS, rInS1, rNinS1, rIxS, rSlS, rStL, rCt, rSL, tApp, tPopAt, tPopL, tJoinL, tIndex, ixN0, ixN1, ixN2, ixN3, atI0, atI1, atI2, atI3, eqV_str, eqV_int, eqV_is, eqV_si, inV_nil, inV_cons, flatV, List.all_cons, List.all_nil, wd_eq, wd_ne0, wd_ne0', List.getElem?_cons_zero, List.getElem?_cons_succ, List.set_cons_zero, List.set_cons_succ, List.cons_append, List.nil_append, List.append_nil, Nat.reduceAdd, Nat.reduceLT, Option.some.injEq, V.int.injEq, V.str.injEq, V.bl.injEq, V.ref.injEq, HO.lst.injEq, HO.tup.injEq, HO.dK.injEq, List.cons.injEq, exists_eq_left, exists_eq_left', exists_eq_right, exists_eq_right', exists_and_left, exists_and_right, exists_const, exists_eq, exists_eq', and_assoc, true_and, and_true, false_and, and_false, true_or, or_true, false_or, or_false, reduceCtorEq, not_true_eq_false, not_false_eq_true, decide_true, decide_false, decide_eq_true_eq, decide_not, Bool.not_true, Bool.not_false, Bool.false_eq_true, Bool.true_and, Bool.and_true, Bool.false_and, Bool.and_false, Bool.true_or, Bool.or_true, Bool.false_or, Bool.or_false, if_true, if_false, ite_true, ite_false, Nat.reduceEqDiff, exists_false, eq_self, upd_same, Bool.not_eq_true', decide_eq_false_iff_not, is_list_int hy]
    refine st_seq ?_
    simp only [tIfS, tRet, tRetN, tAsg, gName, gSub, gCons, gNil, gTup, tDrop, tNext, tVar, tC, tOp, tUn, tTest, tB, tAnd, tOr, tNot, tAndV, tOrV, tNotV, tIf, tCons, tNil, xLst, xTup, xDic, tCB, tCall, tChain, tSl, tPart, tNoPart, rI, rI0, rU, rEq, rNe, scal, rXL, rXT, rXQ, rLenL, rLenT, rLenS, rLenQ, rInt1, rTupL, rLstL, rIsN, rNotN, rInT, rAddS, rLtS, rInS1, rNinS1, rIxS, rSlS, rStL, rCt, rSL, tApp, tPopAt, tPopL, tJoinL, tIndex, ixN0, ixN1, ixN2, ixN3, atI0, atI1, atI2, atI3, eqV_str, eqV_int, eqV_is, eqV_si, inV_nil, inV_cons, flatV, List.all_cons, List.all_nil, wd_eq, wd_ne0, wd_ne0', List.getElem?_cons_zero, List.getElem?_cons_succ, List.set_cons_zero, List.set_cons_succ, List.cons_append, List.nil_append, List.append_nil, Nat.reduceAdd, Nat.reduceLT, Option.some.injEq, V.int.injEq, V.str.injEq, V.bl.injEq, V.ref.injEq, HO.lst.injEq, HO.tup.injEq, HO.dK.injEq, List.cons.injEq, exists_eq_left, exists_eq_left', exists_eq_right, exists_eq_right', exists_and_left, exists_and_right, exists_const, exists_eq, exists_eq', and_assoc, true_and, and_true, false_and, and_false, true_or, or_true, false_or, or_false, reduceCtorEq, not_true_eq_false, not_false_eq_true, decide_true, decide_false, decide_eq_true_eq, decide_not, Bool.not_true, Bool.not_false, Bool.false_eq_true, Bool.true_and, Bool.and_true, Bool.false_and, Bool.and_false, Bool.true_or, Bool.or_true, Bool.false_or, Bool.or_false, if_true, if_false, ite_true, ite_false, Nat.reduceEqDiff, exists_false, eq_self, upd_same, Bool.not_eq_true', decide_eq_false_iff_not, is_list_str hy]
    refine st_seq ?_
    simp only [tIfS, tRet, tRetN, tAsg, gName, gSub, gCons, gNil, gTup, tDrop, tNext, tVar, tC, tOp, tUn, tTest, tB, tAnd, tOr, tNot, tAndV, tOrV, tNotV, tIf, tCons, tNil, xLst, xTup, xDic, tCB, tCall, tChain, tSl, tPart, tNoPart, rI, rI0, rU, rEq, rNe, scal, rXL, rXT, rXQ, rLenL, rLenT, rLenS, rLenQ, rInt1, rTupL, rLstL, rIsN, rNotN, rInT, rAddS, rLtS, rInS1, rNinS1, rIxS, rSlS, rStL, rCt, rSL, tApp, tPopAt, tPopL, tJoinL, tIndex, ixN0, ixN1, ixN2, ixN3, atI0, atI1, atI2, atI3, eqV_str, eqV_int, eqV_is, eqV_si, inV_nil, inV_cons, flatV, List.all_cons, List.all_nil, wd_eq, wd_ne0, wd_ne0', List.getElem?_cons_zero, List.getElem?_cons_succ, List.set_cons_zero, List.set_cons_succ, List.cons_append, List.nil_append, List.append_nil, Nat.reduceAdd, Nat.reduceLT, Option.some.injEq, V.int.injEq, V.str.injEq, V.bl.injEq, V.ref.injEq, HO.lst.injEq, HO.tup.injEq, HO.dK.injEq, List.cons.injEq, exists_eq_left, exists_eq_left', exists_eq_right, exists_eq_right', exists_and_left, exists_and_right, exists_const, exists_eq, exists_eq', and_assoc, true_and, and_true, false_and, and_false, true_or, or_true, false_or, or_false, reduceCtorEq, not_true_eq_false, not_false_eq_true, decide_true, decide_false, decide_eq_true_eq, decide_not, Bool.not_true, Bool.not_false, Bool.false_eq_true, Bool.true_and, Bool.and_true, Bool.false_and, Bool.and_false, Bool.true_or, Bool.or_true, Bool.false_or, Bool.or_false, if_true, if_false, ite_true, ite_false, Nat.reduceEqDiff, exists_false, eq_self, upd_same, Bool.not_eq_true', decide_eq_false_iff_not, is_list_tuple hy, is_list_tuple hx, is_list_list hy, is_list_list hx]
    refine st_seq ?_
    have e1 := rx.length
    have e2 := ry.length
    simp only [tIfS, tRet, tRetN, tAsg, gName, gSub, gCons, gNil, gTup, tDrop, tNext, tVar, tC, tOp, tUn, tTest, tB, tAnd, tOr, tNot, tAndV, tOrV, tNotV, tIf, tCons, tNil, xLst, xTup, xDic, tCB, tCall, tChain, tSl, tPart, tNoPart, rI, rI0, rU, rEq, rNe, scal, rXL, rXT, rXQ, rLenL, rLenT, rLenS, rLenQ, rInt1, rTupL, rLstL, rIsN, rNotN, rInT, rAddS, rLtS, rInS1, rNinS1, rIxS, rSlS, rStL, rCt, rSL, tApp, tPopAt, tPopL, tJoinL, tIndex, ixN0, ixN1, ixN2, ixN3, atI0, atI1, atI2, atI3, eqV_str, eqV_int, eqV_is, eqV_si, inV_nil, inV_cons, flatV, List.all_cons, List.all_nil, wd_eq, wd_ne0, wd_ne0', List.getElem?_cons_zero, List.getElem?_cons_succ, List.set_cons_zero, List.set_cons_succ, List.cons_append, List.nil_append, List.append_nil, Nat.reduceAdd, Nat.reduceLT, Option.some.injEq, V.int.injEq, V.str.injEq, V.bl.injEq, V.ref.injEq, HO.lst.injEq, HO.tup.injEq, HO.dK.injEq, List.cons.injEq, exists_eq_left, exists_eq_left', exists_eq_right, exists_eq_right', exists_and_left, exists_and_right, exists_const, exists_eq, exists_eq', and_assoc, true_and, and_true, false_and, and_false, true_or, or_true, false_or, or_false, reduceCtorEq, not_true_eq_false, not_false_eq_true, decide_true, decide_false, decide_eq_true_eq, decide_not, Bool.not_true, Bool.not_false, Bool.false_eq_true, Bool.true_and, Bool.and_true, Bool.false_and, Bool.and_false, Bool.true_or, Bool.or_true, Bool.false_or, Bool.or_false, if_true, if_false, ite_true, ite_false, Nat.reduceEqDiff, exists_false, eq_self, upd_same, Bool.not_eq_true', decide_eq_false_iff_not, hx, hy]
    rw [e1, e2]
    simp only [tIfS, tRet, tRetN, tAsg, gName, gSub, gCons, gNil, gTup, tDrop, tNext, tVar, tC, tOp, tUn, tTest, tB, tAnd, tOr, tNot, tAndV, tOrV, tNotV, tIf, tCons, tNil, xLst, xTup, xDic, tCB, tCall, tChain, tSl, tPart, tNoPart, rI, rI0, rU, rEq, rNe, scal, rXL, rXT, rXQ, rLenL, rLenT, rLenS, rLenQ, rInt1, rTupL, rLstL, rIsN, rNotN, rInT, rAddS, rLtS, rInS1, rNinS1, rIxS, rSlS, rStL, rCt, rSL, tApp, tPopAt, tPopL, tJoinL, tIndex, ixN0, ixN1, ixN2, ixN3, atI0, atI1, atI2, atI3, eqV_str, eqV_int, eqV_is, eqV_si, inV_nil, inV_cons, flatV, List.all_cons, List.all_nil, wd_eq, wd_ne0, wd_ne0', List.getElem?_cons_zero, List.getElem?_cons_succ, List.set_cons_zero, List.set_cons_succ, List.cons_append, List.nil_append, List.append_nil, Nat.reduceAdd, Nat.reduceLT, Option.some.injEq, V.int.injEq, V.str.injEq, V.bl.injEq, V.ref.injEq, HO.lst.injEq, HO.tup.injEq, HO.dK.injEq, List.cons.injEq, exists_eq_left, exists_eq_left', exists_eq_right, exists_eq_right', exists_and_left, exists_and_right, exists_const, exists_eq, exists_eq', and_assoc, true_and, and_true, false_and, and_false, true_or, or_true, false_or, or_false, reduceCtorEq, not_true_eq_false, not_false_eq_true, decide_true, decide_false, decide_eq_true_eq, decide_not, Bool.not_true, Bool.not_false, Bool.false_eq_true, Bool.true_and, Bool.and_true, Bool.false_and, Bool.and_false, Bool.true_or, Bool.or_true, Bool.false_or, Bool.or_false, if_true, if_false, ite_true, ite_false, Nat.reduceEqDiff, exists_false, eq_self, upd_same, Bool.not_eq_true', decide_eq_false_iff_not, eq_self]
    exact alike_loop (.inl hx) (.inl hy) rx ry (depth_lt_list (by simp only [PyData.depth] at hd; omega)) k (K := K) (Nat.lt_of_le_of_lt ((hw _).1 _ hy) (by decide))
  | tuple ds =>
    cases hx with | tup hx rx => ?_
    cases hy with | tup hy ry => ?_
    simp only [tIfS, tRet, tRetN, tAsg, gName, gSub, gCons, gNil, gTup, tDrop, tNext, tVar, tC, tOp, tUn, tTest, tB, tAnd, tOr, tNot, tAndV, tOrV, tNotV, tIf, tCons, tNil, xLst, xTup, xDic, tCB, tCall, tChain, tSl, tPart, tNoPart, rI, rI0, rU, rEq, rNe, scal, rXL, rXT, rXQ, rLenL, rLenT, rLenS, rLenQ, rInt1, rTupL, rLstL, rIsN, rNotN, rInT, rAddS, rLtS, rInS1, rNinS1, rIxS, rSlS, rStL, rCt, rSL, tApp, tPopAt, tPopL, tJoinL, tIndex, ixN0, ixN1, ixN2, ixN3, atI0, atI1, atI2, atI3, eqV_str, eqV_int, eqV_is, eqV_si, inV_nil, inV_cons, flatV, List.all_cons, List.all_nil, wd_eq, wd_ne0, wd_ne0', List.getElem?_cons_zero, List.getElem?_cons_succ, List.set_cons_zero, List.set_cons_succ, List.cons_append, List.nil_append, List.append_nil, Nat.reduceAdd, Nat.reduceLT, Option.some.injEq, V.int.injEq, V.str.injEq, V.bl.injEq, V.ref.injEq, HO.lst.injEq, HO.tup.injEq, HO.dK.injEq, List.cons.injEq, exists_eq_left, exists_eq_left', exists_eq_right, exists_eq_right', exists_and_left, exists_and_right, exists_const, exists_eq, exists_eq', and_assoc, true_and, and_true, false_and, and_false, true_or, or_true, false_or, or_false, reduceCtorEq, not_true_eq_false, not_false_eq_true, decide_true, decide_false, decide_eq_true_eq, decide_not, Bool.not_true, Bool.not_false, Bool.false_eq_true, Bool.true_and, Bool.and_true, Bool.false_and, Bool.and_false, Bool.true_or, Bool.or_true, Bool.false_or, Bool.or_false, if_true, if_false, ite_true, ite_false, Nat.reduceEqDiff, exists_false, eq_self, upd_same, Bool.not_eq_true', decide_eq_false_iff_not]
    refine st_seq ?_
    simp only [tIfS, tRet, tRetN, tAsg, gName, gSub, gCons, gNil, gTup, tDrop, tNext, tVar, tC, tOp, tUn, tTest, tB, tAnd, tOr, tNot, tAndV, tOrV, tNotV, tIf, tCons, tNil, xLst, xTup, xDic, tCB, tCall, tChain, tSl, tPart, tNoPart, rI, rI0, rU, rEq, rNe, scal, rXL, rXT, rXQ, rLenL, rLenT, rLenS, rLenQ, rInt1, rTupL, rLstL, rIsN, rNotN, rInT, rAddS, rLtS, rInS1, rNinS1, rIxS, rSlS, rStL, rCt, rSL, tApp, tPopAt, tPopL, tJoinL, tIndex, ixN0, ixN1, ixN2, ixN3, atI0, atI1, atI2, atI3, eqV_str, eqV_int, eqV_is, eqV_si, inV_nil, inV_cons, flatV, List.all_cons, List.all_nil, wd_eq, wd_ne0, wd_ne0', List.getElem?_cons_zero, List.getElem?_cons_succ, List.set_cons_zero, List.set_cons_succ, List.cons_append, List.nil_append, List.append_nil, Nat.reduceAdd, Nat.reduceLT, Option.some.injEq, V.int.injEq, V.str.injEq, V.bl.injEq, V.ref.injEq, HO.lst.injEq, HO.tup.injEq, HO.dK.injEq, List.cons.injEq, exists_eq_left, exists_eq_left', exists_eq_right, exists_eq_right', exists_and_left, exists_and_right, exists_const, exists_eq, exists_eq', and_assoc, true_and, and_true, false_and, and_false, true_or, or_true, false_or, or_false, reduceCtorEq, not_true_eq_false, not_false_eq_true, decide_true, decide_false, decide_eq_true_eq, decide_not, Bool.not_true, Bool.not_false, Bool.false_eq_true, Bool.true_and, Bool.and_true, Bool.false_and, Bool.and_false, Bool.true_or, Bool.or_true, Bool.false_or, Bool.or_false, if_true, if_false, ite_true, ite_false, Nat.reduceEqDiff, exists_false, eq_self, upd_same, Bool.not_eq_true', decide_eq_false_iff_not, is_tuple_bool hy]
    refine st_seq ?_
    simp only [tIfS, tRet, tRetN, tAsg, gName, gSub, gCons, gNil, gTup, tDrop, tNext, tVar, tC, tOp, tUn, tTest, tB, tAnd, tOr, tNot, tAndV, tOrV, tNotV, tIf, tCons, tNil, xLst, xTup, xDic, tCB, tCall, tChain, tSl, tPart, tNoPart, rI, rI0, rU, rEq, rNe, scal, rXL, rXT, rXQ, rLenL, rLenT, rLenS, rLenQ, rInt1, rTupL, rLstL, rIsN, rNotN, rInT, rAddS, rLtS, rInS1, rNinS1, rIxS, rSlS, rStL, rCt, rSL, tApp, tPopAt, tPopL, tJoinL, tIndex, ixN0, ixN1, ixN2, ixN3, atI0, atI1, atI2, atI3, eqV_str, eqV_int, eqV_is, eqV_si, inV_nil, inV_cons, flatV, List.all_cons, List.all_nil, wd_eq, wd_ne0, wd_ne0', List.getElem?_cons_zero, List.getElem?_cons_succ, List.set_cons_zero, List.set_cons_succ, List.cons_append, List.nil_append, List.append_nil, Nat.reduceAdd, Nat.reduceLT, Option.some.injEq, V.int.injEq, V.str.injEq, V.bl.injEq, V.ref.injEq, HO.lst.injEq, HO.tup.injEq, HO.dK.injEq, List.cons.injEq, exists_eq_left, exists_eq_left', exists_eq_right, exists_eq_right', exists_and_left, exists_and_right, exists_const, exists_eq, exists_eq', and_assoc, true_and, and_true, false_and, and_false, true_or, or_true, false_or, or_false, reduceCtorEq, not_true_eq_false, not_false_eq_true, decide_true, decide_false, decide_eq_true_eq, decide_not, Bool.not_true, Bool.not_false, Bool.false_eq_true, Bool.true_and, Bool.and_true, Bool.false_and, Bool.and_false, Bool.true_or, Bool.or_true, Bool.false_or, Bool.or_false, if_true, if_false, ite_true, ite_false, Nat.reduceEqDiff, exists_false, eq_self, upd_same, Bool.not_eq_true', decide_eq_false_iff_not, is_tuple_int hy]
    refine st_seq ?_
    simp only [tIfS, tRet, tRetN, tAsg, gName, gSub, gCons, gNil, gTup, tDrop, tNext, tVar, tC, tOp, tUn, tTest, tB, tAnd, tOr, tNot, tAndV, tOrV, tNotV, tIf, tCons, tNil, xLst, xTup, xDic, tCB, tCall, tChain, tSl, tPart, tNoPart, rI, rI0, rU, rEq, rNe, scal, rXL, rXT, rXQ, rLenL, rLenT, rLenS, rLenQ, rInt1, rTupL, rLstL, rIsN, rNotN, rInT, rAddS, rLtS, rInS1, rNinS1, rIxS, rSlS, rStL, rCt, rSL, tApp, tPopAt, tPopL, tJoinL, tIndex, ixN0, ixN1, ixN2, ixN3, atI0, atI1, atI2, atI3, eqV_str, eqV_int, eqV_is, eqV_si, inV_nil, inV_cons, flatV, List.all_cons, List.all_nil, wd_eq, wd_ne0, wd_ne0', List.getElem?_cons_zero, List.getElem?_cons_succ, List.set_cons_zero, List.set_cons_succ, List.cons_append, List.nil_append, List.append_nil, Nat.reduceAdd, Nat.reduceLT, Option.some.injEq, V.int.injEq, V.str.injEq, V.bl.injEq, V.ref.injEq, HO.lst.injEq, HO.tup.injEq, HO.dK.injEq, List.cons.injEq, exists_eq_left, exists_eq_left', exists_eq_right, exists_eq_right', exists_and_left, exists_and_right, exists_const, exists_eq, exists_eq', and_assoc, true_and, and_true, false_and, and_false, true_or, or_true, false_or, or_false, reduceCtorEq, not_true_eq_false, not_false_eq_true, decide_true, decide_false, decide_eq_true_eq, decide_not, Bool.not_true, Bool.not_false, Bool.false_eq_true, Bool.true_and, Bool.and_true, Bool.false_and, Bool.and_false, Bool.true_or, Bool.or_true, Bool.false_or, Bool.or_false, if_true, if_false, ite_true, ite_false, Nat.reduceEqDiff, exists_false, eq_self, upd_same, Bool.not_eq_true', decide_eq_false_iff_not, is_tuple_str hy]
    refine st_seq ?_
    simp only [tIfS, tRet, tRetN, tAsg, gName, gSub, gCons, gNil, gTup, tDrop, tNext, tVar, tC, tOp, tUn, tTest, tB, tAnd, tOr, tNot, tAndV, tOrV, tNotV, tIf, tCons, tNil, xLst, xTup, xDic, tCB, tCall, tChain, tSl, tPart, tNoPart, rI, rI0, rU, rEq, rNe, scal, rXL, rXT, rXQ, rLenL, rLenT, rLenS, rLenQ, rInt1, rTupL, rLstL, rIsN, rNotN, rInT, rAddS, rLtS, rInS1, rNinS1, rIxS, rSlS, rStL, rCt, rSL, tApp, tPopAt, tPopL, tJoinL, tIndex, ixN0, ixN1, ixN2, ixN3, atI0, atI1, atI2, atI3, eqV_str, eqV_int, eqV_is, eqV_si, inV_nil, inV_cons, flatV, List.all_cons, List.all_nil, wd_eq, wd_ne0, wd_ne0', List.getElem?_cons_zero, List.getElem?_cons_succ, List.set_cons_zero, List.set_cons_succ, List.cons_append, List.nil_append, List.append_nil, Nat.reduceAdd, Nat.reduceLT, Option.some.injEq, V.int.injEq, V.str.injEq, V.bl.injEq, V.ref.injEq, HO.lst.injEq, HO.tup.injEq, HO.dK.injEq, List.cons.injEq, exists_eq_left, exists_eq_left', exists_eq_right, exists_eq_right', exists_and_left, exists_and_right, exists_const, exists_eq, exists_eq', and_assoc, true_and, and_true, false_and, and_false, true_or, or_true, false_or, or_false, reduceCtorEq, not_true_eq_false, not_false_eq_true, decide_true, decide_false, decide_eq_true_eq, decide_not, Bool.not_true, Bool.not_false, Bool.false_eq_true, Bool.true_and, Bool.and_true, Bool.false_and, Bool.and_false, Bool.true_or, Bool.or_true, Bool.false_or, Bool.or_false, if_true, if_false, ite_true, ite_false, Nat.reduceEqDiff, exists_false, eq_self, upd_same, Bool.not_eq_true', decide_eq_false_iff_not, is_tuple_tuple hy, is_tuple_tuple hx, is_tuple_list hy, is_tuple_list hx]
    refine st_seq ?_
    have e1 := rx.length
    have e2 := ry.length
    simp only [tIfS, tRet, tRetN, tAsg, gName, gSub, gCons, gNil, gTup, tDrop, tNext, tVar, tC, tOp, tUn, tTest, tB, tAnd, tOr, tNot, tAndV, tOrV, tNotV, tIf, tCons, tNil, xLst, xTup, xDic, tCB, tCall, tChain, tSl, tPart, tNoPart, rI, rI0, rU, rEq, rNe, scal, rXL, rXT, rXQ, rLenL, rLenT, rLenS, rLenQ, rInt1, rTupL, rLstL, rIsN, rNotN, rInT, rAddS, rLtS, rInS1, rNinS1, rIxS, rSlS, rStL, rCt, rSL, tApp, tPopAt, tPopL, tJoinL, tIndex, ixN0, ixN1, ixN2, ixN3, atI0, atI1, atI2, atI3, eqV_str, eqV_int, eqV_is, eqV_si, inV_nil, inV_cons, flatV, List.all_cons, List.all_nil, wd_eq, wd_ne0, wd_ne0', List.getElem?_cons_zero, List.getElem?_cons_succ, List.set_cons_zero, List.set_cons_succ, List.cons_append, List.nil_append, List.append_nil, Nat.reduceAdd, Nat.reduceLT, Option.some.injEq, V.int.injEq, V.str.injEq, V.bl.injEq, V.ref.injEq, HO.lst.injEq, HO.tup.injEq, HO.dK.injEq, List.cons.injEq, exists_eq_left, exists_eq_left', exists_eq_right, exists_eq_right', exists_and_left, exists_and_right, exists_const, exists_eq, exists_eq', and_assoc, true_and, and_true, false_and, and_false, true_or, or_true, false_or, or_false, reduceCtorEq, not_true_eq_false, not_false_eq_true, decide_true, decide_false, decide_eq_true_eq, decide_not, Bool.not_true, Bool.not_false, Bool.false_eq_true, Bool.true_and, Bool.and_true, Bool.false_and, Bool.and_false, Bool.true_or, Bool.or_true, Bool.false_or, Bool.or_false, if_true, if_false, ite_true, ite_false, Nat.reduceEqDiff, exists_false, eq_self, upd_same, Bool.not_eq_true', decide_eq_false_iff_not, hx, hy]
    rw [e1, e2]
    simp only [tIfS, tRet, tRetN, tAsg, gName, gSub, gCons, gNil, gTup, tDrop, tNext, tVar, tC, tOp, tUn, tTest, tB, tAnd, tOr, tNot, tAndV, tOrV, tNotV, tIf, tCons, tNil, xLst, xTup, xDic, tCB, tCall, tChain, tSl, tPart, tNoPart, rI, rI0, rU, rEq, rNe, scal, rXL, rXT, rXQ, rLenL, rLenT, rLenS, rLenQ, rInt1, rTupL, rLstL, rIsN, rNotN, rInT, rAddS, rLtS, rInS1, rNinS1, rIxS, rSlS, rStL, rCt, rSL, tApp, tPopAt, tPopL, tJoinL, tIndex, ixN0, ixN1, ixN2, ixN3, atI0, atI1, atI2, atI3, eqV_str, eqV_int, eqV_is, eqV_si, inV_nil, inV_cons, flatV, List.all_cons, List.all_nil, wd_eq, wd_ne0, wd_ne0', List.getElem?_cons_zero, List.getElem?_cons_succ, List.set_cons_zero, List.set_cons_succ, List.cons_append, List.nil_append, List.append_nil, Nat.reduceAdd, Nat.reduceLT, Option.some.injEq, V.int.injEq, V.str.injEq, V.bl.injEq, V.ref.injEq, HO.lst.injEq, HO.tup.injEq, HO.dK.injEq, List.cons.injEq, exists_eq_left, exists_eq_left', exists_eq_right, exists_eq_right', exists_and_left, exists_and_right, exists_const, exists_eq, exists_eq', and_assoc, true_and, and_true, false_and, and_false, true_or, or_true, false_or, or_false, reduceCtorEq, not_true_eq_false, not_false_eq_true, decide_true, decide_false, decide_eq_true_eq, decide_not, Bool.not_true, Bool.not_false, Bool.false_eq_true, Bool.true_and, Bool.and_true, Bool.false_and, Bool.and_false, Bool.true_or, Bool.or_true, Bool.false_or, Bool.or_false, if_true, if_false, ite_true, ite_false, Nat.reduceEqDiff, exists_false, eq_self, upd_same, Bool.not_eq_true', decide_eq_false_iff_not, eq_self]
    exact alike_loop (.inr hx) (.inr hy) rx ry (depth_lt_list (by simp only [PyData.depth] at hd; omega)) k (K := K) (Nat.lt_of_le_of_lt ((hw _).2.1 _ hy) (by decide))
  | dict kvs => cases hx
end Hn

namespace Hn
open PySem PySem.Spec PyProof.Rows L2
/-- law from 6 -/
def t_law_6 (K : PySem.W.Frag) : TS :=
  (tSeq (tIfS (tNot (tB (tCall (sp_L_alike 20) [] E0 (tCons (tCall sp_is_so [] E0 (tCons (tVar 2) tNil)) (tCons (tCall sp_L_is_so [] E0 (tCons (tVar 2) tNil)) tNil))))) (tRet (tC (.bl false))) tNext)
    (tRet (tCall (sp_L_alike 20) [] E0 (tCons (tCall sp_kind_of [] E0 (tCons (tVar 2) tNil)) (tCons (tOp rXL (xLst (tCons (tC (.str (wd 23))) (tCons (tC (.str (wd 24))) tNil))) (tCB rInt1 (tCons (tCB (rIs "str") (tCons (tVar 2) (tCons (tC (.ty "str")) tNil))) tNil))) tNil)))))

/-- law from 5 -/
def t_law_5 (K : PySem.W.Frag) : TS :=
  tSeq (tIfS (tNot (tB (tCall (sp_L_alike 20) [] E0 (tCons (tCall sp_worked [] E0 (tCons (tVar 4) (tCons (tVar 2) (tCons (tVar 3) tNil)))) (tCons (tCall sp_L_worked [] E0 (tCons (tVar 4) (tCons (tVar 2) (tCons (tVar 3) tNil)))) tNil))))) (tRet (tC (.bl false))) tNext) (t_law_6 K)

/-- law from 4 -/
def t_law_4 (K : PySem.W.Frag) : TS :=
  tSeq (tAsg (tOp rXL (xLst (tCons (tC (.str (wd 3))) (tCons (tC (.str (wd 4))) (tCons (tC (.str (wd 5))) (tCons (tC (.str (wd 6))) tNil))))) (tCall sp_L_take [] E0 (tCons (tVar 1) (tCons (tC (.int 4)) tNil)))) (gName 4)) (t_law_5 K)

/-- law from 3 -/
def t_law_3 (K : PySem.W.Frag) : TS :=
  tSeq (tIfS (tTest (tOp rEq (tCall sp_L_take [] E0 (tCons (tVar 1) (tCons (tC (.int 4)) tNil))) (tC (.int 1)))) (tAsg (tVar 2) (gName 3)) tNext) (t_law_4 K)

/-- law from 2 -/
def t_law_2 (K : PySem.W.Frag) : TS :=
  tSeq (tAsg (tCall sp_L_value [] E0 (tCons (tVar 1) tNil)) (gName 3)) (t_law_3 K)

/-- law from 1 -/
def t_law_1 (K : PySem.W.Frag) : TS :=
  tSeq (tAsg (tCall sp_L_value [] E0 (tCons (tVar 1) tNil)) (gName 2)) (t_law_2 K)

/-- law -/
def t_law (K : PySem.W.Frag) : TS :=
  tSeq (tAsg (tCall (sp_L_script K) [] E0 (tCons (tVar 0) tNil)) (gName 1)) (t_law_1 K)

def sp_law (K : PySem.W.Frag) : Sp := fun vs H Q _ => ∃ (a : Addr) (ns : List Int), vs = [.ref a] ∧ SqL K H a (ns.map V.int) ∧ ns.length ≤ 63 ∧ ∀ H', Q (.bl true) H'
theorem len_law {K : PySem.W.Frag} (vs : List V) (H : Hp) (Q : VK) (E : XK) (h : sp_law K vs H Q E) : vs.length = 1 := by
  obtain ⟨_, _, rfl, _⟩ := h
  rfl
theorem sg4 {z : Int} (h0 : 0 ≤ z) (h1 : z < 4) : ∃ s : Sg, atI [V.str (wd 3), V.str (wd 4), V.str (wd 5), V.str (wd 6)] z = some (.str s.s) := by
  have hz : z = 0 ∨ z = 1 ∨ z = 2 ∨ z = 3 := by omega
  rcases hz with hz | hz | hz | hz <;> subst hz
  · exact ⟨.add, atI0 _ _⟩
  · exact ⟨.sub, atI1 _ _ _⟩
  · exact ⟨.less, atI2 _ _ _ _⟩
  · exact ⟨.same, atI3 _ _ _ _ _⟩
theorem rp_v (H : Hp) (x : Vl) : ∃ d : PyData, Rp H x.v d ∧ d.depth = 0 := by
  cases x with
  | n i => exact ⟨.int i, .int i, rfl⟩
  | t z => exact ⟨.str z, .str z, rfl⟩
theorem rp_ov (H : Hp) (x : Option Vl) : ∃ d : PyData, Rp H (ov x) d ∧ d.depth = 0 := by
  cases x with
  | none => exact ⟨.none, .non, rfl⟩
  | some x => exact rp_v H x
theorem k01_tail {K : PySem.W.Frag} {H : Hp} {Q : VK} {b : Addr} {s : Sg} {a : Addr} {x y : Vl} (hx : x.ok) (hy : y.ok) (k : ∀ H', Q (.bl true) H') :
    t_law_5 K { nx := fun _ H' => Q .non H', rt := Q } [some (.ref a), some (.ref b), some x.v, some y.v, some (.str s.s)] H := by
  unfold t_law_5; refine st_seq ?_
  simp only [tIfS, tRet, tRetN, tAsg, gName, gSub, gCons, gNil, gTup, tDrop, tNext, tVar, tC, tOp, tUn, tTest, tB, tAnd, tOr, tNot, tAndV, tOrV, tNotV, tIf, tCons, tNil, xLst, xTup, xDic, tCB, tCall, tChain, tSl, tPart, tNoPart, rI, rI0, rU, rEq, rNe, scal, rXL, rXT, rXQ, rLenL, rLenT, rLenS, rLenQ, rInt1, rTupL, rLstL, rIsN, rNotN, rInT, rAddS, rLtS, rInS1, rNinS1, rIxS, rSlS, rStL, rCt, rSL, tApp, tPopAt, tPopL, tJoinL, tIndex, ixN0, ixN1, ixN2, ixN3, atI0, atI1, atI2, atI3, eqV_str, eqV_int, eqV_is, eqV_si, inV_nil, inV_cons, flatV, List.all_cons, List.all_nil, wd_eq, wd_ne0, wd_ne0', List.getElem?_cons_zero, List.getElem?_cons_succ, List.set_cons_zero, List.set_cons_succ, List.cons_append, List.nil_append, List.append_nil, Nat.reduceAdd, Nat.reduceLT, Option.some.injEq, V.int.injEq, V.str.injEq, V.bl.injEq, V.ref.injEq, HO.lst.injEq, HO.tup.injEq, HO.dK.injEq, List.cons.injEq, exists_eq_left, exists_eq_left', exists_eq_right, exists_eq_right', exists_and_left, exists_and_right, exists_const, exists_eq, exists_eq', and_assoc, true_and, and_true, false_and, and_false, true_or, or_true, false_or, or_false, reduceCtorEq, not_true_eq_false, not_false_eq_true, decide_true, decide_false, decide_eq_true_eq, decide_not, Bool.not_true, Bool.not_false, Bool.false_eq_true, Bool.true_and, Bool.and_true, Bool.false_and, Bool.and_false, Bool.true_or, Bool.or_true, Bool.false_or, Bool.or_false, if_true, if_false, ite_true, ite_false, Nat.reduceEqDiff, exists_false, eq_self, upd_same, Bool.not_eq_true', decide_eq_false_iff_not]
  refine ⟨s, x, y, rfl, hx, hy, fun H1 f1 => ⟨s, x, y, rfl, hx, hy, fun H2 f2 => ?_⟩⟩
  obtain ⟨d, hd, h0⟩ := rp_ov H2 (wk s x y)
  refine ⟨_, _, d, rfl, hd, hd, by omega, ?_⟩
  simp only [tIfS, tRet, tRetN, tAsg, gName, gSub, gCons, gNil, gTup, tDrop, tNext, tVar, tC, tOp, tUn, tTest, tB, tAnd, tOr, tNot, tAndV, tOrV, tNotV, tIf, tCons, tNil, xLst, xTup, xDic, tCB, tCall, tChain, tSl, tPart, tNoPart, rI, rI0, rU, rEq, rNe, scal, rXL, rXT, rXQ, rLenL, rLenT, rLenS, rLenQ, rInt1, rTupL, rLstL, rIsN, rNotN, rInT, rAddS, rLtS, rInS1, rNinS1, rIxS, rSlS, rStL, rCt, rSL, tApp, tPopAt, tPopL, tJoinL, tIndex, ixN0, ixN1, ixN2, ixN3, atI0, atI1, atI2, atI3, eqV_str, eqV_int, eqV_is, eqV_si, inV_nil, inV_cons, flatV, List.all_cons, List.all_nil, wd_eq, wd_ne0, wd_ne0', List.getElem?_cons_zero, List.getElem?_cons_succ, List.set_cons_zero, List.set_cons_succ, List.cons_append, List.nil_append, List.append_nil, Nat.reduceAdd, Nat.reduceLT, Option.some.injEq, V.int.injEq, V.str.injEq, V.bl.injEq, V.ref.injEq, HO.lst.injEq, HO.tup.injEq, HO.dK.injEq, List.cons.injEq, exists_eq_left, exists_eq_left', exists_eq_right, exists_eq_right', exists_and_left, exists_and_right, exists_const, exists_eq, exists_eq', and_assoc, true_and, and_true, false_and, and_false, true_or, or_true, false_or, or_false, reduceCtorEq, not_true_eq_false, not_false_eq_true, decide_true, decide_false, decide_eq_true_eq, decide_not, Bool.not_true, Bool.not_false, Bool.false_eq_true, Bool.true_and, Bool.and_true, Bool.false_and, Bool.and_false, Bool.true_or, Bool.or_true, Bool.false_or, Bool.or_false, if_true, if_false, ite_true, ite_false, Nat.reduceEqDiff, exists_false, eq_self, upd_same, Bool.not_eq_true', decide_eq_false_iff_not]
  unfold t_law_6; refine st_seq ?_
  simp only [tIfS, tRet, tRetN, tAsg, gName, gSub, gCons, gNil, gTup, tDrop, tNext, tVar, tC, tOp, tUn, tTest, tB, tAnd, tOr, tNot, tAndV, tOrV, tNotV, tIf, tCons, tNil, xLst, xTup, xDic, tCB, tCall, tChain, tSl, tPart, tNoPart, rI, rI0, rU, rEq, rNe, scal, rXL, rXT, rXQ, rLenL, rLenT, rLenS, rLenQ, rInt1, rTupL, rLstL, rIsN, rNotN, rInT, rAddS, rLtS, rInS1, rNinS1, rIxS, rSlS, rStL, rCt, rSL, tApp, tPopAt, tPopL, tJoinL, tIndex, ixN0, ixN1, ixN2, ixN3, atI0, atI1, atI2, atI3, eqV_str, eqV_int, eqV_is, eqV_si, inV_nil, inV_cons, flatV, List.all_cons, List.all_nil, wd_eq, wd_ne0, wd_ne0', List.getElem?_cons_zero, List.getElem?_cons_succ, List.set_cons_zero, List.set_cons_succ, List.cons_append, List.nil_append, List.append_nil, Nat.reduceAdd, Nat.reduceLT, Option.some.injEq, V.int.injEq, V.str.injEq, V.bl.injEq, V.ref.injEq, HO.lst.injEq, HO.tup.injEq, HO.dK.injEq, List.cons.injEq, exists_eq_left, exists_eq_left', exists_eq_right, exists_eq_right', exists_and_left, exists_and_right, exists_const, exists_eq, exists_eq', and_assoc, true_and, and_true, false_and, and_false, true_or, or_true, false_or, or_false, reduceCtorEq, not_true_eq_false, not_false_eq_true, decide_true, decide_false, decide_eq_true_eq, decide_not, Bool.not_true, Bool.not_false, Bool.false_eq_true, Bool.true_and, Bool.and_true, Bool.false_and, Bool.and_false, Bool.true_or, Bool.or_true, Bool.false_or, Bool.or_false, if_true, if_false, ite_true, ite_false, Nat.reduceEqDiff, exists_false, eq_self, upd_same, Bool.not_eq_true', decide_eq_false_iff_not]
  refine ⟨x, rfl, fun H3 f3 => ⟨x, rfl, fun H4 f4 => ⟨_, _, .bool x.so, rfl, .bl _, .bl _, by simp only [PyData.depth]; decide, ?_⟩⟩⟩
  simp only [tIfS, tRet, tRetN, tAsg, gName, gSub, gCons, gNil, gTup, tDrop, tNext, tVar, tC, tOp, tUn, tTest, tB, tAnd, tOr, tNot, tAndV, tOrV, tNotV, tIf, tCons, tNil, xLst, xTup, xDic, tCB, tCall, tChain, tSl, tPart, tNoPart, rI, rI0, rU, rEq, rNe, scal, rXL, rXT, rXQ, rLenL, rLenT, rLenS, rLenQ, rInt1, rTupL, rLstL, rIsN, rNotN, rInT, rAddS, rLtS, rInS1, rNinS1, rIxS, rSlS, rStL, rCt, rSL, tApp, tPopAt, tPopL, tJoinL, tIndex, ixN0, ixN1, ixN2, ixN3, atI0, atI1, atI2, atI3, eqV_str, eqV_int, eqV_is, eqV_si, inV_nil, inV_cons, flatV, List.all_cons, List.all_nil, wd_eq, wd_ne0, wd_ne0', List.getElem?_cons_zero, List.getElem?_cons_succ, List.set_cons_zero, List.set_cons_succ, List.cons_append, List.nil_append, List.append_nil, Nat.reduceAdd, Nat.reduceLT, Option.some.injEq, V.int.injEq, V.str.injEq, V.bl.injEq, V.ref.injEq, HO.lst.injEq, HO.tup.injEq, HO.dK.injEq, List.cons.injEq, exists_eq_left, exists_eq_left', exists_eq_right, exists_eq_right', exists_and_left, exists_and_right, exists_const, exists_eq, exists_eq', and_assoc, true_and, and_true, false_and, and_false, true_or, or_true, false_or, or_false, reduceCtorEq, not_true_eq_false, not_false_eq_true, decide_true, decide_false, decide_eq_true_eq, decide_not, Bool.not_true, Bool.not_false, Bool.false_eq_true, Bool.true_and, Bool.and_true, Bool.false_and, Bool.and_false, Bool.true_or, Bool.or_true, Bool.false_or, Bool.or_false, if_true, if_false, ite_true, ite_false, Nat.reduceEqDiff, exists_false, eq_self, upd_same, Bool.not_eq_true', decide_eq_false_iff_not]
  refine ⟨x, rfl, (by simp only [List.length_cons, List.length_nil]; decide), fun p H5 A => ?_⟩
  simp only [tIfS, tRet, tRetN, tAsg, gName, gSub, gCons, gNil, gTup, tDrop, tNext, tVar, tC, tOp, tUn, tTest, tB, tAnd, tOr, tNot, tAndV, tOrV, tNotV, tIf, tCons, tNil, xLst, xTup, xDic, tCB, tCall, tChain, tSl, tPart, tNoPart, rI, rI0, rU, rEq, rNe, scal, rXL, rXT, rXQ, rLenL, rLenT, rLenS, rLenQ, rInt1, rTupL, rLstL, rIsN, rNotN, rInT, rAddS, rLtS, rInS1, rNinS1, rIxS, rSlS, rStL, rCt, rSL, tApp, tPopAt, tPopL, tJoinL, tIndex, ixN0, ixN1, ixN2, ixN3, atI0, atI1, atI2, atI3, eqV_str, eqV_int, eqV_is, eqV_si, inV_nil, inV_cons, flatV, List.all_cons, List.all_nil, wd_eq, wd_ne0, wd_ne0', List.getElem?_cons_zero, List.getElem?_cons_succ, List.set_cons_zero, List.set_cons_succ, List.cons_append, List.nil_append, List.append_nil, Nat.reduceAdd, Nat.reduceLT, Option.some.injEq, V.int.injEq, V.str.injEq, V.bl.injEq, V.ref.injEq, HO.lst.injEq, HO.tup.injEq, HO.dK.injEq, List.cons.injEq, exists_eq_left, exists_eq_left', exists_eq_right, exists_eq_right', exists_and_left, exists_and_right, exists_const, exists_eq, exists_eq', and_assoc, true_and, and_true, false_and, and_false, true_or, or_true, false_or, or_false, reduceCtorEq, not_true_eq_false, not_false_eq_true, decide_true, decide_false, decide_eq_true_eq, decide_not, Bool.not_true, Bool.not_false, Bool.false_eq_true, Bool.true_and, Bool.and_true, Bool.false_and, Bool.and_false, Bool.true_or, Bool.or_true, Bool.false_or, Bool.or_false, if_true, if_false, ite_true, ite_false, Nat.reduceEqDiff, exists_false, eq_self, upd_same, Bool.not_eq_true', decide_eq_false_iff_not, is_str, A.at_]
  cases x with
  | n i => simp only [tIfS, tRet, tRetN, tAsg, gName, gSub, gCons, gNil, gTup, tDrop, tNext, tVar, tC, tOp, tUn, tTest, tB, tAnd, tOr, tNot, tAndV, tOrV, tNotV, tIf, tCons, tNil, xLst, xTup, xDic, tCB, tCall, tChain, tSl, tPart, tNoPart, rI, rI0, rU, rEq, rNe, scal, rXL, rXT, rXQ, rLenL, rLenT, rLenS, rLenQ, rInt1, rTupL, rLstL, rIsN, rNotN, rInT, rAddS, rLtS, rInS1, rNinS1, rIxS, rSlS, rStL, rCt, rSL, tApp, tPopAt, tPopL, tJoinL, tIndex, ixN0, ixN1, ixN2, ixN3, atI0, atI1, atI2, atI3, eqV_str, eqV_int, eqV_is, eqV_si, inV_nil, inV_cons, flatV, List.all_cons, List.all_nil, wd_eq, wd_ne0, wd_ne0', List.getElem?_cons_zero, List.getElem?_cons_succ, List.set_cons_zero, List.set_cons_succ, List.cons_append, List.nil_append, List.append_nil, Nat.reduceAdd, Nat.reduceLT, Option.some.injEq, V.int.injEq, V.str.injEq, V.bl.injEq, V.ref.injEq, HO.lst.injEq, HO.tup.injEq, HO.dK.injEq, List.cons.injEq, exists_eq_left, exists_eq_left', exists_eq_right, exists_eq_right', exists_and_left, exists_and_right, exists_const, exists_eq, exists_eq', and_assoc, true_and, and_true, false_and, and_false, true_or, or_true, false_or, or_false, reduceCtorEq, not_true_eq_false, not_false_eq_true, decide_true, decide_false, decide_eq_true_eq, decide_not, Bool.not_true, Bool.not_false, Bool.false_eq_true, Bool.true_and, Bool.and_true, Bool.false_and, Bool.and_false, Bool.true_or, Bool.or_true, Bool.false_or, Bool.or_false, if_true, if_false, ite_true, ite_false, Nat.reduceEqDiff, exists_false, eq_self, upd_same, Bool.not_eq_true', decide_eq_false_iff_not]; exact ⟨_, _, _, rfl, .str _, .str _, by simp only [PyData.depth]; decide, k _⟩
  | t i => simp only [tIfS, tRet, tRetN, tAsg, gName, gSub, gCons, gNil, gTup, tDrop, tNext, tVar, tC, tOp, tUn, tTest, tB, tAnd, tOr, tNot, tAndV, tOrV, tNotV, tIf, tCons, tNil, xLst, xTup, xDic, tCB, tCall, tChain, tSl, tPart, tNoPart, rI, rI0, rU, rEq, rNe, scal, rXL, rXT, rXQ, rLenL, rLenT, rLenS, rLenQ, rInt1, rTupL, rLstL, rIsN, rNotN, rInT, rAddS, rLtS, rInS1, rNinS1, rIxS, rSlS, rStL, rCt, rSL, tApp, tPopAt, tPopL, tJoinL, tIndex, ixN0, ixN1, ixN2, ixN3, atI0, atI1, atI2, atI3, eqV_str, eqV_int, eqV_is, eqV_si, inV_nil, inV_cons, flatV, List.all_cons, List.all_nil, wd_eq, wd_ne0, wd_ne0', List.getElem?_cons_zero, List.getElem?_cons_succ, List.set_cons_zero, List.set_cons_succ, List.cons_append, List.nil_append, List.append_nil, Nat.reduceAdd, Nat.reduceLT, Option.some.injEq, V.int.injEq, V.str.injEq, V.bl.injEq, V.ref.injEq, HO.lst.injEq, HO.tup.injEq, HO.dK.injEq, List.cons.injEq, exists_eq_left, exists_eq_left', exists_eq_right, exists_eq_right', exists_and_left, exists_and_right, exists_const, exists_eq, exists_eq', and_assoc, true_and, and_true, false_and, and_false, true_or, or_true, false_or, or_false, reduceCtorEq, not_true_eq_false, not_false_eq_true, decide_true, decide_false, decide_eq_true_eq, decide_not, Bool.not_true, Bool.not_false, Bool.false_eq_true, Bool.true_and, Bool.and_true, Bool.false_and, Bool.and_false, Bool.true_or, Bool.or_true, Bool.false_or, Bool.or_false, if_true, if_false, ite_true, ite_false, Nat.reduceEqDiff, exists_false, eq_self, upd_same, Bool.not_eq_true', decide_eq_false_iff_not]; exact ⟨_, _, _, rfl, .str _, .str _, by simp only [PyData.depth]; decide, k _⟩
theorem rd_law {K : PySem.W.Frag} {vs : List V} {H : Hp} {Q : VK} {E : XK} (h : sp_law K vs H Q E) : t_law K { nx := fun _ H' => Q .non H', rt := Q } (start ["_", "_", "_", "_", "_"] vs) H := by
  obtain ⟨a, ns, rfl, hS, hl, k⟩ := h
  show t_law K _ [some (.ref a), none, none, none, none] H
  unfold t_law
  refine st_seq ?_
  simp only [tIfS, tRet, tRetN, tAsg, gName, gSub, gCons, gNil, gTup, tDrop, tNext, tVar, tC, tOp, tUn, tTest, tB, tAnd, tOr, tNot, tAndV, tOrV, tNotV, tIf, tCons, tNil, xLst, xTup, xDic, tCB, tCall, tChain, tSl, tPart, tNoPart, rI, rI0, rU, rEq, rNe, scal, rXL, rXT, rXQ, rLenL, rLenT, rLenS, rLenQ, rInt1, rTupL, rLstL, rIsN, rNotN, rInT, rAddS, rLtS, rInS1, rNinS1, rIxS, rSlS, rStL, rCt, rSL, tApp, tPopAt, tPopL, tJoinL, tIndex, ixN0, ixN1, ixN2, ixN3, atI0, atI1, atI2, atI3, eqV_str, eqV_int, eqV_is, eqV_si, inV_nil, inV_cons, flatV, List.all_cons, List.all_nil, wd_eq, wd_ne0, wd_ne0', List.getElem?_cons_zero, List.getElem?_cons_succ, List.set_cons_zero, List.set_cons_succ, List.cons_append, List.nil_append, List.append_nil, Nat.reduceAdd, Nat.reduceLT, Option.some.injEq, V.int.injEq, V.str.injEq, V.bl.injEq, V.ref.injEq, HO.lst.injEq, HO.tup.injEq, HO.dK.injEq, List.cons.injEq, exists_eq_left, exists_eq_left', exists_eq_right, exists_eq_right', exists_and_left, exists_and_right, exists_const, exists_eq, exists_eq', and_assoc, true_and, and_true, false_and, and_false, true_or, or_true, false_or, or_false, reduceCtorEq, not_true_eq_false, not_false_eq_true, decide_true, decide_false, decide_eq_true_eq, decide_not, Bool.not_true, Bool.not_false, Bool.false_eq_true, Bool.true_and, Bool.and_true, Bool.false_and, Bool.and_false, Bool.true_or, Bool.or_true, Bool.false_or, Bool.or_false, if_true, if_false, ite_true, ite_false, Nat.reduceEqDiff, exists_false, eq_self, upd_same, Bool.not_eq_true', decide_eq_false_iff_not]
  refine ⟨a, ns, rfl, hS, hl, fun b l H1 B1 _ => ?_⟩
  unfold t_law_1; refine st_seq ?_
  simp only [tIfS, tRet, tRetN, tAsg, gName, gSub, gCons, gNil, gTup, tDrop, tNext, tVar, tC, tOp, tUn, tTest, tB, tAnd, tOr, tNot, tAndV, tOrV, tNotV, tIf, tCons, tNil, xLst, xTup, xDic, tCB, tCall, tChain, tSl, tPart, tNoPart, rI, rI0, rU, rEq, rNe, scal, rXL, rXT, rXQ, rLenL, rLenT, rLenS, rLenQ, rInt1, rTupL, rLstL, rIsN, rNotN, rInT, rAddS, rLtS, rInS1, rNinS1, rIxS, rSlS, rStL, rCt, rSL, tApp, tPopAt, tPopL, tJoinL, tIndex, ixN0, ixN1, ixN2, ixN3, atI0, atI1, atI2, atI3, eqV_str, eqV_int, eqV_is, eqV_si, inV_nil, inV_cons, flatV, List.all_cons, List.all_nil, wd_eq, wd_ne0, wd_ne0', List.getElem?_cons_zero, List.getElem?_cons_succ, List.set_cons_zero, List.set_cons_succ, List.cons_append, List.nil_append, List.append_nil, Nat.reduceAdd, Nat.reduceLT, Option.some.injEq, V.int.injEq, V.str.injEq, V.bl.injEq, V.ref.injEq, HO.lst.injEq, HO.tup.injEq, HO.dK.injEq, List.cons.injEq, exists_eq_left, exists_eq_left', exists_eq_right, exists_eq_right', exists_and_left, exists_and_right, exists_const, exists_eq, exists_eq', and_assoc, true_and, and_true, false_and, and_false, true_or, or_true, false_or, or_false, reduceCtorEq, not_true_eq_false, not_false_eq_true, decide_true, decide_false, decide_eq_true_eq, decide_not, Bool.not_true, Bool.not_false, Bool.false_eq_true, Bool.true_and, Bool.and_true, Bool.false_and, Bool.and_false, Bool.true_or, Bool.or_true, Bool.false_or, Bool.or_false, if_true, if_false, ite_true, ite_false, Nat.reduceEqDiff, exists_false, eq_self, upd_same, Bool.not_eq_true', decide_eq_false_iff_not]
  refine ⟨b, l, rfl, B1, fun x H2 hx B2 _ => ?_⟩
  unfold t_law_2; refine st_seq ?_
  simp only [tIfS, tRet, tRetN, tAsg, gName, gSub, gCons, gNil, gTup, tDrop, tNext, tVar, tC, tOp, tUn, tTest, tB, tAnd, tOr, tNot, tAndV, tOrV, tNotV, tIf, tCons, tNil, xLst, xTup, xDic, tCB, tCall, tChain, tSl, tPart, tNoPart, rI, rI0, rU, rEq, rNe, scal, rXL, rXT, rXQ, rLenL, rLenT, rLenS, rLenQ, rInt1, rTupL, rLstL, rIsN, rNotN, rInT, rAddS, rLtS, rInS1, rNinS1, rIxS, rSlS, rStL, rCt, rSL, tApp, tPopAt, tPopL, tJoinL, tIndex, ixN0, ixN1, ixN2, ixN3, atI0, atI1, atI2, atI3, eqV_str, eqV_int, eqV_is, eqV_si, inV_nil, inV_cons, flatV, List.all_cons, List.all_nil, wd_eq, wd_ne0, wd_ne0', List.getElem?_cons_zero, List.getElem?_cons_succ, List.set_cons_zero, List.set_cons_succ, List.cons_append, List.nil_append, List.append_nil, Nat.reduceAdd, Nat.reduceLT, Option.some.injEq, V.int.injEq, V.str.injEq, V.bl.injEq, V.ref.injEq, HO.lst.injEq, HO.tup.injEq, HO.dK.injEq, List.cons.injEq, exists_eq_left, exists_eq_left', exists_eq_right, exists_eq_right', exists_and_left, exists_and_right, exists_const, exists_eq, exists_eq', and_assoc, true_and, and_true, false_and, and_false, true_or, or_true, false_or, or_false, reduceCtorEq, not_true_eq_false, not_false_eq_true, decide_true, decide_false, decide_eq_true_eq, decide_not, Bool.not_true, Bool.not_false, Bool.false_eq_true, Bool.true_and, Bool.and_true, Bool.false_and, Bool.and_false, Bool.true_or, Bool.or_true, Bool.false_or, Bool.or_false, if_true, if_false, ite_true, ite_false, Nat.reduceEqDiff, exists_false, eq_self, upd_same, Bool.not_eq_true', decide_eq_false_iff_not]
  refine ⟨b, l, rfl, B2, fun y H3 hy B3 _ => ?_⟩
  unfold t_law_3; refine st_seq ?_
  simp only [tIfS, tRet, tRetN, tAsg, gName, gSub, gCons, gNil, gTup, tDrop, tNext, tVar, tC, tOp, tUn, tTest, tB, tAnd, tOr, tNot, tAndV, tOrV, tNotV, tIf, tCons, tNil, xLst, xTup, xDic, tCB, tCall, tChain, tSl, tPart, tNoPart, rI, rI0, rU, rEq, rNe, scal, rXL, rXT, rXQ, rLenL, rLenT, rLenS, rLenQ, rInt1, rTupL, rLstL, rIsN, rNotN, rInT, rAddS, rLtS, rInS1, rNinS1, rIxS, rSlS, rStL, rCt, rSL, tApp, tPopAt, tPopL, tJoinL, tIndex, ixN0, ixN1, ixN2, ixN3, atI0, atI1, atI2, atI3, eqV_str, eqV_int, eqV_is, eqV_si, inV_nil, inV_cons, flatV, List.all_cons, List.all_nil, wd_eq, wd_ne0, wd_ne0', List.getElem?_cons_zero, List.getElem?_cons_succ, List.set_cons_zero, List.set_cons_succ, List.cons_append, List.nil_append, List.append_nil, Nat.reduceAdd, Nat.reduceLT, Option.some.injEq, V.int.injEq, V.str.injEq, V.bl.injEq, V.ref.injEq, HO.lst.injEq, HO.tup.injEq, HO.dK.injEq, List.cons.injEq, exists_eq_left, exists_eq_left', exists_eq_right, exists_eq_right', exists_and_left, exists_and_right, exists_const, exists_eq, exists_eq', and_assoc, true_and, and_true, false_and, and_false, true_or, or_true, false_or, or_false, reduceCtorEq, not_true_eq_false, not_false_eq_true, decide_true, decide_false, decide_eq_true_eq, decide_not, Bool.not_true, Bool.not_false, Bool.false_eq_true, Bool.true_and, Bool.and_true, Bool.false_and, Bool.and_false, Bool.true_or, Bool.or_true, Bool.false_or, Bool.or_false, if_true, if_false, ite_true, ite_false, Nat.reduceEqDiff, exists_false, eq_self, upd_same, Bool.not_eq_true', decide_eq_false_iff_not]
  refine ⟨b, l, 4, rfl, B3, by decide, by decide, fun r H4 r0 r1 B4 _ => ?_⟩
  simp only [tIfS, tRet, tRetN, tAsg, gName, gSub, gCons, gNil, gTup, tDrop, tNext, tVar, tC, tOp, tUn, tTest, tB, tAnd, tOr, tNot, tAndV, tOrV, tNotV, tIf, tCons, tNil, xLst, xTup, xDic, tCB, tCall, tChain, tSl, tPart, tNoPart, rI, rI0, rU, rEq, rNe, scal, rXL, rXT, rXQ, rLenL, rLenT, rLenS, rLenQ, rInt1, rTupL, rLstL, rIsN, rNotN, rInT, rAddS, rLtS, rInS1, rNinS1, rIxS, rSlS, rStL, rCt, rSL, tApp, tPopAt, tPopL, tJoinL, tIndex, ixN0, ixN1, ixN2, ixN3, atI0, atI1, atI2, atI3, eqV_str, eqV_int, eqV_is, eqV_si, inV_nil, inV_cons, flatV, List.all_cons, List.all_nil, wd_eq, wd_ne0, wd_ne0', List.getElem?_cons_zero, List.getElem?_cons_succ, List.set_cons_zero, List.set_cons_succ, List.cons_append, List.nil_append, List.append_nil, Nat.reduceAdd, Nat.reduceLT, Option.some.injEq, V.int.injEq, V.str.injEq, V.bl.injEq, V.ref.injEq, HO.lst.injEq, HO.tup.injEq, HO.dK.injEq, List.cons.injEq, exists_eq_left, exists_eq_left', exists_eq_right, exists_eq_right', exists_and_left, exists_and_right, exists_const, exists_eq, exists_eq', and_assoc, true_and, and_true, false_and, and_false, true_or, or_true, false_or, or_false, reduceCtorEq, not_true_eq_false, not_false_eq_true, decide_true, decide_false, decide_eq_true_eq, decide_not, Bool.not_true, Bool.not_false, Bool.false_eq_true, Bool.true_and, Bool.and_true, Bool.false_and, Bool.and_false, Bool.true_or, Bool.or_true, Bool.false_or, Bool.or_false, if_true, if_false, ite_true, ite_false, Nat.reduceEqDiff, exists_false, eq_self, upd_same, Bool.not_eq_true', decide_eq_false_iff_not]
  have go : ∀ (y' : Vl), y'.ok → ∀ H' , BoxAt H' b l → t_law_4 K { nx := fun _ H' => Q .non H', rt := Q } [some (.ref a), some (.ref b), some x.v, some y'.v, none] H' := fun y' hy' H' B' => ?tail
  split
  · exact go x hx H4 B4
  · exact go y hy H4 B4
  case tail =>
    unfold t_law_4; refine st_seq ?_
    simp only [tIfS, tRet, tRetN, tAsg, gName, gSub, gCons, gNil, gTup, tDrop, tNext, tVar, tC, tOp, tUn, tTest, tB, tAnd, tOr, tNot, tAndV, tOrV, tNotV, tIf, tCons, tNil, xLst, xTup, xDic, tCB, tCall, tChain, tSl, tPart, tNoPart, rI, rI0, rU, rEq, rNe, scal, rXL, rXT, rXQ, rLenL, rLenT, rLenS, rLenQ, rInt1, rTupL, rLstL, rIsN, rNotN, rInT, rAddS, rLtS, rInS1, rNinS1, rIxS, rSlS, rStL, rCt, rSL, tApp, tPopAt, tPopL, tJoinL, tIndex, ixN0, ixN1, ixN2, ixN3, atI0, atI1, atI2, atI3, eqV_str, eqV_int, eqV_is, eqV_si, inV_nil, inV_cons, flatV, List.all_cons, List.all_nil, wd_eq, wd_ne0, wd_ne0', List.getElem?_cons_zero, List.getElem?_cons_succ, List.set_cons_zero, List.set_cons_succ, List.cons_append, List.nil_append, List.append_nil, Nat.reduceAdd, Nat.reduceLT, Option.some.injEq, V.int.injEq, V.str.injEq, V.bl.injEq, V.ref.injEq, HO.lst.injEq, HO.tup.injEq, HO.dK.injEq, List.cons.injEq, exists_eq_left, exists_eq_left', exists_eq_right, exists_eq_right', exists_and_left, exists_and_right, exists_const, exists_eq, exists_eq', and_assoc, true_and, and_true, false_and, and_false, true_or, or_true, false_or, or_false, reduceCtorEq, not_true_eq_false, not_false_eq_true, decide_true, decide_false, decide_eq_true_eq, decide_not, Bool.not_true, Bool.not_false, Bool.false_eq_true, Bool.true_and, Bool.and_true, Bool.false_and, Bool.and_false, Bool.true_or, Bool.or_true, Bool.false_or, Bool.or_false, if_true, if_false, ite_true, ite_false, Nat.reduceEqDiff, exists_false, eq_self, upd_same, Bool.not_eq_true', decide_eq_false_iff_not]
    refine ⟨(by simp only [List.length_cons, List.length_nil]; decide), fun p H5 A5 => ?_⟩
    refine ⟨b, l, 4, rfl, B'.keep A5.fr, by decide, by decide, fun z H6 z0 z1 B6 f6 => ?_⟩
    have hp : H6 p = _ := f6.keep _ _ A5.at_ (B'.off A5.new)
    obtain ⟨s, es⟩ := sg4 z0 z1
    simp only [tIfS, tRet, tRetN, tAsg, gName, gSub, gCons, gNil, gTup, tDrop, tNext, tVar, tC, tOp, tUn, tTest, tB, tAnd, tOr, tNot, tAndV, tOrV, tNotV, tIf, tCons, tNil, xLst, xTup, xDic, tCB, tCall, tChain, tSl, tPart, tNoPart, rI, rI0, rU, rEq, rNe, scal, rXL, rXT, rXQ, rLenL, rLenT, rLenS, rLenQ, rInt1, rTupL, rLstL, rIsN, rNotN, rInT, rAddS, rLtS, rInS1, rNinS1, rIxS, rSlS, rStL, rCt, rSL, tApp, tPopAt, tPopL, tJoinL, tIndex, ixN0, ixN1, ixN2, ixN3, atI0, atI1, atI2, atI3, eqV_str, eqV_int, eqV_is, eqV_si, inV_nil, inV_cons, flatV, List.all_cons, List.all_nil, wd_eq, wd_ne0, wd_ne0', List.getElem?_cons_zero, List.getElem?_cons_succ, List.set_cons_zero, List.set_cons_succ, List.cons_append, List.nil_append, List.append_nil, Nat.reduceAdd, Nat.reduceLT, Option.some.injEq, V.int.injEq, V.str.injEq, V.bl.injEq, V.ref.injEq, HO.lst.injEq, HO.tup.injEq, HO.dK.injEq, List.cons.injEq, exists_eq_left, exists_eq_left', exists_eq_right, exists_eq_right', exists_and_left, exists_and_right, exists_const, exists_eq, exists_eq', and_assoc, true_and, and_true, false_and, and_false, true_or, or_true, false_or, or_false, reduceCtorEq, not_true_eq_false, not_false_eq_true, decide_true, decide_false, decide_eq_true_eq, decide_not, Bool.not_true, Bool.not_false, Bool.false_eq_true, Bool.true_and, Bool.and_true, Bool.false_and, Bool.and_false, Bool.true_or, Bool.or_true, Bool.false_or, Bool.or_false, if_true, if_false, ite_true, ite_false, Nat.reduceEqDiff, exists_false, eq_self, upd_same, Bool.not_eq_true', decide_eq_false_iff_not, hp, es]
    exact k01_tail (K := K) hx hy' k
end Hn

namespace Hn
open PySem PySem.Spec PyProof.Rows L2
/-! ### the text by places -/
def topS (i : Nat) : Stmt := PySem.Challenge.pw_hunch_k01_values.main.body.getD i (.Pass ⟨0, 0, 0, 0⟩)
abbrev s_kind_of : Stmt := topS 3
abbrev s_is_so : Stmt := topS 4
abbrev s_of_numbers : Stmt := topS 5
abbrev s_of_texts : Stmt := topS 6
abbrev s_worked : Stmt := topS 7
abbrev s_L_script : Stmt := topS 9
abbrev s_L_take : Stmt := topS 10
abbrev s_L_alike : Stmt := topS 11
abbrev s_L_text : Stmt := topS 12
abbrev s_L_name : Stmt := topS 13
abbrev s_L_part : Stmt := topS 14
abbrev s_L_row : Stmt := topS 15
abbrev s_L_statement : Stmt := topS 16
abbrev s_L_counted : Stmt := topS 17
abbrev s_L_program : Stmt := topS 18
abbrev s_L_value : Stmt := topS 19
abbrev s_L_names : Stmt := topS 20
abbrev s_L_of_texts : Stmt := topS 21
abbrev s_L_worked : Stmt := topS 22
abbrev s_L_is_so : Stmt := topS 23
abbrev s_law : Stmt := topS 24
/-! ### what the defs lean on -/
structure Top (K : PySem.W.Frag) (mg : Str → Option Value) : Prop where
  d_kind_of : DefAt K mg "kind_of" s_kind_of
  d_is_so : DefAt K mg "is_so" s_is_so
  d_of_numbers : DefAt K mg "of_numbers" s_of_numbers
  d_of_texts : DefAt K mg "of_texts" s_of_texts
  d_worked : DefAt K mg "worked" s_worked
  d_L_script : DefAt K mg "_law_script" s_L_script
  d_L_take : DefAt K mg "_law_take" s_L_take
  d_L_alike : DefAt K mg "_law_alike" s_L_alike
  d_L_text : DefAt K mg "_law_text" s_L_text
  d_L_name : DefAt K mg "_law_name" s_L_name
  d_L_part : DefAt K mg "_law_part" s_L_part
  d_L_row : DefAt K mg "_law_row" s_L_row
  d_L_statement : DefAt K mg "_law_statement" s_L_statement
  d_L_counted : DefAt K mg "_law_counted" s_L_counted
  d_L_program : DefAt K mg "_law_program" s_L_program
  d_L_value : DefAt K mg "_law_value" s_L_value
  d_L_names : DefAt K mg "_law_names" s_L_names
  d_L_of_texts : DefAt K mg "_law_of_texts" s_L_of_texts
  d_L_worked : DefAt K mg "_law_worked" s_L_worked
  d_L_is_so : DefAt K mg "_law_is_so" s_L_is_so
  d_law : DefAt K mg "law" s_law
  g_len : mg "len" = none
  g_range : mg "range" = none
  g_isinstance : mg "isinstance" = none
  g_int : mg "int" = none
  g_str : mg "str" = none
  g_list : mg "list" = none
  g_tuple : mg "tuple" = none
  g_dict : mg "dict" = none
  g_sum : mg "sum" = none
  g_enumerate : mg "enumerate" = none
  g_sorted : mg "sorted" = none
  g_bool : mg "bool" = none
  g_reversed : mg "reversed" = none
  c_MODULE : ∃ t, mg "MODULE" = some (.int 10007 t)
  c_MOST_SIGNS : ∃ t, mg "MOST_SIGNS" = some (.int 12 t)
section
variable {P : Program} {w : World} {K : PySem.W.Frag} {mg : Str → Option Value} {base : Heap}

abbrev nm_L_take : List Str := ["_law_box", "_law_many", "_law_number"]
theorem sc_L_take : FnScope nm_L_take ["_law_box", "_law_many"] (defScope s_L_take) := ⟨rfl, rfl, rfl, by decide +kernel, rfl, by decide +kernel, by decide +kernel⟩
theorem ok_L_take (T : Top K mg) : OkF P w K mg base 1 "_law_take" ["_law_box", "_law_many"] sp_L_take := by
  refine DefAt.ok (k := 0) T.d_L_take sc_L_take (fun _ _ _ _ _ _ us hl => match us, hl with | [_, _], _ => rfl) len_L_take (fun f cdv A outer s H vs Q E hr h => ⟨t_L_take K, ?_, fun z => rd_L_take h⟩)
  have hu := hu_of hr
  exact (pss_cons (ps_if (pt_cmpR (op_eqE hr.units) (pe_ix ix_l (pv 0) pe_int (fun _ _ => rfl)) (pe_lstX pa_nil) (nomark _)) (pss_cons (ps_asg (pe_op op_mod (pe_op op_mul (pe_ix ix_l (pv 0) pe_int (fun _ _ => rfl)) pe_int) pe_int) (pg_sub (pv 0) pe_int set_l))
    (pss_one (ps_ret (pe_op op_mod (pe_op op_fdiv (pe_ix ix_l (pv 0) pe_int (fun _ _ => rfl)) pe_int) (pv 1))))) pss_nil)
    (pss_cons (ps_set (i := 2) sc_L_take.nd rfl (Or.inl rfl) (pe_ix ix_l (pe_ix ix_l (pv 0) pe_int (fun _ _ => rfl)) pe_int (fun _ _ => rfl)))
    (pss_cons (ps_asg (pe_op op_fdiv (pv 2) (pv 1)) (pg_sub (pe_ix ix_l (pv 0) pe_int (fun _ _ => rfl)) pe_int set_l))
    (pss_cons (ps_if (pt_cmpR op_inT (pe_ix ix_l (pe_ix ix_l (pv 0) pe_int (fun _ _ => rfl)) pe_int (fun _ _ => rfl)) (pe_tupX (pa_cons pe_int (pa_cons (pe_un un_neg pe_int) pa_nil))) (by rfl)) (pss_one (ps_expr (pe_popAt (pe_ix ix_l (pv 0) pe_int (fun _ _ => rfl)) pe_int))) pss_nil)
    (pss_one (ps_ret (pe_op op_mod (pv 2) (pv 1))))))))

abbrev nm_L_script : List Str := ["_law_script_here", "_law_stirred", "_law_at", "_law_cell"]
theorem sc_L_script : FnScope nm_L_script ["_law_script_here"] (defScope s_L_script) := ⟨rfl, rfl, rfl, by decide +kernel, rfl, by decide +kernel, by decide +kernel⟩
theorem ok_L_script (T : Top K mg) : OkF P w K mg base 1 "_law_script" ["_law_script_here"] (sp_L_script K) := by
  refine DefAt.ok (k := 0) T.d_L_script sc_L_script (fun _ _ _ _ _ _ us hl => match us, hl with | [_], _ => rfl) len_L_script (fun f cdv A outer s H vs Q E hr h => ⟨t_L_script K, ?_, fun z => rd_L_script h⟩)
  have hu := hu_of hr
  exact (pss_cons (ps_set (i := 1) sc_L_script.nd rfl (Or.inl rfl) (pe_op op_mod (pe_callB (cr_sum (by rfl)) (by rfl) T.g_sum (by decide +kernel) (pa_cons (pe_lc (own := [("_law_at", 2), ("_law_cell", 3)]) rfl sc_L_script.nd (pi_enum (by rfl) T.g_enumerate (pa_cons (pv 0) pa_nil)) (blkOk_by (own := [("_law_at", 2), ("_law_cell", 3)]) (N := nm_L_script) (sc := defScope s_L_script) (by decide +kernel)) (fun _ _ _ _ _ => (pg_tup rfl (pgs_cons (pg_name (i := 2) sc_L_script.nd rfl (Or.inl rfl)) (pgs_cons (pg_name (i := 3) sc_L_script.nd rfl (Or.inl rfl)) pgs_nil)))) (fun _ _ _ _ _ => pts_nil) (fun _ _ _ _ _ => (pe_op op_mul (pe_op op_add (pv 2) pe_int) (pe_op op_mod (pv 3) pe_int)))) pa_nil)) pe_int))
    (pss_one (ps_ret (pe_lstX (pa_cons (pe_callTy cl_lstK (by rfl) T.g_list (by decide +kernel) (pa_cons (pv 0) pa_nil)) (pa_cons (pe_op op_mul (pv 1) (pe_callTy cl_int1 (by rfl) T.g_int (by decide +kernel) (pa_cons (pe_cmpR op_gt (pe_callB call_len_seq (by rfl) T.g_len (by decide +kernel) (pa_cons (pv 0) pa_nil)) pe_int (nomark _)) pa_nil))) pa_nil))))))

abbrev nm_L_text : List Str := ["_law_box", "_law_some", "_law_size", "_law_k"]
theorem sc_L_text : FnScope nm_L_text ["_law_box"] (defScope s_L_text) := ⟨rfl, rfl, rfl, by decide +kernel, rfl, by decide +kernel, by decide +kernel⟩
theorem ok_L_text (T : Top K mg) : OkF P w K mg base 2 "_law_text" ["_law_box"] sp_L_text := by
  refine DefAt.ok (k := 1) T.d_L_text sc_L_text (fun _ _ _ _ _ _ us hl => match us, hl with | [_], _ => rfl) len_L_text (fun f cdv A outer s H vs Q E hr h => ⟨t_L_text K, ?_, fun z => rd_L_text h⟩)
  have hu := hu_of hr
  exact (pss_cons (ps_set (i := 1) sc_L_text.nd rfl (Or.inr rfl) (pe_ix ix_l (pe_lstX (pa_cons pe_str (pa_cons pe_str pa_nil))) (pe_callF (ok_L_take T) (hr.mono (by decide)) (by rfl) (pa_cons (pv 0) (pa_cons pe_int pa_nil))) (fun _ _ => rfl)))
    (pss_cons (ps_set (i := 2) sc_L_text.nd rfl (Or.inl rfl) (pe_ix ix_l (pe_lstX (pa_cons (pe_callF (ok_L_take T) (hr.mono (by decide)) (by rfl) (pa_cons (pv 0) (pa_cons pe_int pa_nil))) (pa_cons (pe_callF (ok_L_take T) (hr.mono (by decide)) (by rfl) (pa_cons (pv 0) (pa_cons pe_int pa_nil))) pa_nil))) (pe_callTy cl_int1 (by rfl) T.g_int (by decide +kernel) (pa_cons (pe_cmpR op_eq (pe_callF (ok_L_take T) (hr.mono (by decide)) (by rfl) (pa_cons (pv 0) (pa_cons pe_int pa_nil))) pe_int (nomark _)) pa_nil)) (fun _ _ => rfl)))
    (pss_one (ps_ret (pe_joinL pe_str (pe_lc (own := [("_law_k", 3)]) rfl sc_L_text.nd (pi_range1 (by rfl) T.g_range (pa_cons (pv 2) pa_nil)) (blkOk_by (own := [("_law_k", 3)]) (N := nm_L_text) (sc := defScope s_L_text) (by decide +kernel)) (fun _ _ _ _ _ => (pg_name (i := 3) sc_L_text.nd rfl (Or.inl rfl))) (fun _ _ _ _ _ => pts_nil) (fun _ _ _ _ _ => (pe_ix ix_str (pv 1) (pe_callF (ok_L_take T) (hr.mono (by decide)) (by rfl) (pa_cons (pv 0) (pa_cons (pe_callB cl_lenS (by rfl) T.g_len (by decide +kernel) (pa_cons (pv 1) pa_nil)) pa_nil))) (fun _ _ => rfl)))))))))

abbrev nm_L_value : List Str := ["_law_box"]
theorem sc_L_value : FnScope nm_L_value ["_law_box"] (defScope s_L_value) := ⟨rfl, rfl, rfl, by decide +kernel, rfl, by decide +kernel, by decide +kernel⟩
theorem ok_L_value (T : Top K mg) : OkF P w K mg base 3 "_law_value" ["_law_box"] sp_L_value := by
  refine DefAt.ok (k := 2) T.d_L_value sc_L_value (fun _ _ _ _ _ _ us hl => match us, hl with | [_], _ => rfl) len_L_value (fun f cdv A outer s H vs Q E hr h => ⟨t_L_value K, ?_, fun z => rd_L_value h⟩)
  have hu := hu_of hr
  exact (pss_cons (ps_if (pt_cmpR op_eq (pe_callF (ok_L_take T) (hr.mono (by decide)) (by rfl) (pa_cons (pv 0) (pa_cons pe_int pa_nil))) pe_int (nomark _)) (pss_one (ps_ret (pe_callF (ok_L_text T) (hr.mono (by decide)) (by rfl) (pa_cons (pv 0) pa_nil)))) pss_nil)
    (pss_one (ps_ret (pe_ix ix_l (pe_lstX (pa_cons (pe_callF (ok_L_take T) (hr.mono (by decide)) (by rfl) (pa_cons (pv 0) (pa_cons pe_int pa_nil))) (pa_cons (pe_callF (ok_L_take T) (hr.mono (by decide)) (by rfl) (pa_cons (pv 0) (pa_cons pe_int pa_nil))) pa_nil))) (pe_callF (ok_L_take T) (hr.mono (by decide)) (by rfl) (pa_cons (pv 0) (pa_cons pe_int pa_nil))) (fun _ _ => rfl)))))

abbrev nm_kind_of : List Str := ["value"]
theorem sc_kind_of : FnScope nm_kind_of ["value"] (defScope s_kind_of) := ⟨rfl, rfl, rfl, by decide +kernel, rfl, by decide +kernel, by decide +kernel⟩
theorem ok_kind_of (T : Top K mg) : OkF P w K mg base 1 "kind_of" ["value"] sp_kind_of := by
  refine DefAt.ok (k := 0) T.d_kind_of sc_kind_of (fun _ _ _ _ _ _ us hl => match us, hl with | [_], _ => rfl) len_kind_of (fun f cdv A outer s H vs Q E hr h => ⟨t_kind_of K, ?_, fun z => rd_kind_of h⟩)
  have hu := hu_of hr
  exact (pss_cons (ps_if (pt_val (pe_callB (cl_is (T := "str")) (by rfl) T.g_isinstance (by decide +kernel) (pa_cons (pv 0) (pa_cons (pe_bltn (by rfl) T.g_str (by decide +kernel) rfl) pa_nil)))) (pss_one (ps_ret pe_str)) pss_nil)
    (pss_one (ps_ret pe_str)))

abbrev nm_is_so : List Str := ["value"]
theorem sc_is_so : FnScope nm_is_so ["value"] (defScope s_is_so) := ⟨rfl, rfl, rfl, by decide +kernel, rfl, by decide +kernel, by decide +kernel⟩
theorem ok_is_so (T : Top K mg) : OkF P w K mg base 1 "is_so" ["value"] sp_is_so := by
  refine DefAt.ok (k := 0) T.d_is_so sc_is_so (fun _ _ _ _ _ _ us hl => match us, hl with | [_], _ => rfl) len_is_so (fun f cdv A outer s H vs Q E hr h => ⟨t_is_so K, ?_, fun z => rd_is_so h⟩)
  have hu := hu_of hr
  exact (pss_one (ps_ret (pe_and (pe_cmpR op_ne (pv 0) pe_int (nomark _)) (pe_one (pe_cmpR op_ne (pv 0) pe_str (nomark _))))))

abbrev nm_of_numbers : List Str := ["sign", "one", "two"]
theorem sc_of_numbers : FnScope nm_of_numbers ["sign", "one", "two"] (defScope s_of_numbers) := ⟨rfl, rfl, rfl, by decide +kernel, rfl, by decide +kernel, by decide +kernel⟩
theorem ok_of_numbers (T : Top K mg) : OkF P w K mg base 1 "of_numbers" ["sign", "one", "two"] sp_of_numbers := by
  refine DefAt.ok (k := 0) T.d_of_numbers sc_of_numbers (fun _ _ _ _ _ _ us hl => match us, hl with | [_, _, _], _ => rfl) len_of_numbers (fun f cdv A outer s H vs Q E hr h => ⟨t_of_numbers K, ?_, fun z => rd_of_numbers h⟩)
  have hu := hu_of hr
  exact (pss_cons (ps_if (pt_cmpR op_eq (pv 0) pe_str (nomark _)) (pss_one (ps_ret (pe_op op_mod (pe_op op_add (pv 1) (pv 2)) (pe_int_glob rfl T.c_MODULE)))) pss_nil)
    (pss_cons (ps_if (pt_cmpR op_eq (pv 0) pe_str (nomark _)) (pss_one (ps_ret (pe_op op_mod (pe_op op_sub (pv 1) (pv 2)) (pe_int_glob rfl T.c_MODULE)))) pss_nil)
    (pss_one (ps_ret (pe_callTy cl_int1 (by rfl) T.g_int (by decide +kernel) (pa_cons (pe_cmpR op_lt (pv 1) (pv 2) (nomark _)) pa_nil))))))

abbrev nm_of_texts : List Str := ["sign", "one", "two", "letter"]
theorem sc_of_texts : FnScope nm_of_texts ["sign", "one", "two"] (defScope s_of_texts) := ⟨rfl, rfl, rfl, by decide +kernel, rfl, by decide +kernel, by decide +kernel⟩
theorem ok_of_texts (T : Top K mg) : OkF P w K mg base 1 "of_texts" ["sign", "one", "two"] sp_of_texts := by
  refine DefAt.ok (k := 0) T.d_of_texts sc_of_texts (fun _ _ _ _ _ _ us hl => match us, hl with | [_, _, _], _ => rfl) len_of_texts (fun f cdv A outer s H vs Q E hr h => ⟨t_of_texts K, ?_, fun z => rd_of_texts h⟩)
  have hu := hu_of hr
  exact (pss_cons (ps_if (pt_cmpR op_eq (pv 0) pe_str (nomark _)) (pss_one (ps_ret (pe_slice sl_str (pe_op op_addS (pv 1) (pv 2)) po_none (po_some (pe_int_glob rfl T.c_MOST_SIGNS))))) pss_nil)
    (pss_cons (ps_if (pt_cmpR op_eq (pv 0) pe_str (nomark _)) (pss_one (ps_ret (pe_joinL pe_str (pe_lc (own := [("letter", 3)]) rfl sc_of_texts.nd (pi_str (pv 1)) (blkOk_by (own := [("letter", 3)]) (N := nm_of_texts) (sc := defScope s_of_texts) (by decide +kernel)) (fun _ _ _ _ _ => (pg_name (i := 3) sc_of_texts.nd rfl (Or.inl rfl))) (fun _ _ _ _ _ => (pts_one (pt_cmpR op_ninS (pv 3) (pv 2) (by rfl)))) (fun _ _ _ _ _ => (pv 3)))))) pss_nil)
    (pss_one (ps_ret (pe_callTy cl_int1 (by rfl) T.g_int (by decide +kernel) (pa_cons (pe_cmpR op_ltS (pv 1) (pv 2) (nomark _)) pa_nil))))))

abbrev nm_worked : List Str := ["sign", "one", "two"]
theorem sc_worked : FnScope nm_worked ["sign", "one", "two"] (defScope s_worked) := ⟨rfl, rfl, rfl, by decide +kernel, rfl, by decide +kernel, by decide +kernel⟩
theorem ok_worked (T : Top K mg) : OkF P w K mg base 2 "worked" ["sign", "one", "two"] sp_worked := by
  refine DefAt.ok (k := 1) T.d_worked sc_worked (fun _ _ _ _ _ _ us hl => match us, hl with | [_, _, _], _ => rfl) len_worked (fun f cdv A outer s H vs Q E hr h => ⟨t_worked K, ?_, fun z => rd_worked h⟩)
  have hu := hu_of hr
  exact (pss_cons (ps_if (pt_cmpR op_eq (pv 0) pe_str (nomark _)) (pss_one (ps_ret (pe_callTy cl_int1 (by rfl) T.g_int (by decide +kernel) (pa_cons (pe_and (pe_cmpR op_eq (pe_callF (ok_kind_of T) (hr.mono (by decide)) (by rfl) (pa_cons (pv 1) pa_nil)) (pe_callF (ok_kind_of T) (hr.mono (by decide)) (by rfl) (pa_cons (pv 2) pa_nil)) (nomark _)) (pe_one (pe_cmpR op_eq (pv 1) (pv 2) (nomark _)))) pa_nil)))) pss_nil)
    (pss_cons (ps_if (pt_cmpR op_ne (pe_callF (ok_kind_of T) (hr.mono (by decide)) (by rfl) (pa_cons (pv 1) pa_nil)) (pe_callF (ok_kind_of T) (hr.mono (by decide)) (by rfl) (pa_cons (pv 2) pa_nil)) (nomark _)) (pss_one (ps_ret pe_non)) pss_nil)
    (pss_cons (ps_if (pt_cmpR op_eq (pe_callF (ok_kind_of T) (hr.mono (by decide)) (by rfl) (pa_cons (pv 1) pa_nil)) pe_str (nomark _)) (pss_one (ps_ret (pe_callF (ok_of_numbers T) (hr.mono (by decide)) (by rfl) (pa_cons (pv 0) (pa_cons (pv 1) (pa_cons (pv 2) pa_nil)))))) pss_nil)
    (pss_one (ps_ret (pe_callF (ok_of_texts T) (hr.mono (by decide)) (by rfl) (pa_cons (pv 0) (pa_cons (pv 1) (pa_cons (pv 2) pa_nil)))))))))

abbrev nm_L_of_texts : List Str := ["_law_sign", "_law_one", "_law_two", "_law_letter"]
theorem sc_L_of_texts : FnScope nm_L_of_texts ["_law_sign", "_law_one", "_law_two"] (defScope s_L_of_texts) := ⟨rfl, rfl, rfl, by decide +kernel, rfl, by decide +kernel, by decide +kernel⟩
theorem ok_L_of_texts (T : Top K mg) : OkF P w K mg base 1 "_law_of_texts" ["_law_sign", "_law_one", "_law_two"] sp_L_of_texts := by
  refine DefAt.ok (k := 0) T.d_L_of_texts sc_L_of_texts (fun _ _ _ _ _ _ us hl => match us, hl with | [_, _, _], _ => rfl) len_L_of_texts (fun f cdv A outer s H vs Q E hr h => ⟨t_L_of_texts K, ?_, fun z => rd_L_of_texts h⟩)
  have hu := hu_of hr
  exact (pss_cons (ps_if (pt_cmpR op_eq (pv 0) pe_str (nomark _)) (pss_one (ps_ret (pe_slice sl_str (pe_op op_addS (pv 1) (pv 2)) po_none (po_some pe_int)))) pss_nil)
    (pss_cons (ps_if (pt_cmpR op_eq (pv 0) pe_str (nomark _)) (pss_one (ps_ret (pe_callTy cl_int1 (by rfl) T.g_int (by decide +kernel) (pa_cons (pe_cmpR op_ltS (pv 1) (pv 2) (nomark _)) pa_nil)))) pss_nil)
    (pss_one (ps_ret (pe_joinL pe_str (pe_lc (own := [("_law_letter", 3)]) rfl sc_L_of_texts.nd (pi_str (pv 1)) (blkOk_by (own := [("_law_letter", 3)]) (N := nm_L_of_texts) (sc := defScope s_L_of_texts) (by decide +kernel)) (fun _ _ _ _ _ => (pg_name (i := 3) sc_L_of_texts.nd rfl (Or.inl rfl))) (fun _ _ _ _ _ => (pts_one (pt_cmpR op_ninS (pv 3) (pv 2) (by rfl)))) (fun _ _ _ _ _ => (pv 3))))))))

abbrev nm_L_worked : List Str := ["_law_sign", "_law_one", "_law_two", "_law_alike_here"]
theorem sc_L_worked : FnScope nm_L_worked ["_law_sign", "_law_one", "_law_two"] (defScope s_L_worked) := ⟨rfl, rfl, rfl, by decide +kernel, rfl, by decide +kernel, by decide +kernel⟩
theorem ok_L_worked (T : Top K mg) : OkF P w K mg base 2 "_law_worked" ["_law_sign", "_law_one", "_law_two"] sp_L_worked := by
  refine DefAt.ok (k := 1) T.d_L_worked sc_L_worked (fun _ _ _ _ _ _ us hl => match us, hl with | [_, _, _], _ => rfl) len_L_worked (fun f cdv A outer s H vs Q E hr h => ⟨t_L_worked K, ?_, fun z => rd_L_worked h⟩)
  have hu := hu_of hr
  exact (pss_cons (ps_set (i := 3) sc_L_worked.nd rfl (Or.inl rfl) (pe_cmpR op_eq (pe_callB (cl_is (T := "str")) (by rfl) T.g_isinstance (by decide +kernel) (pa_cons (pv 1) (pa_cons (pe_bltn (by rfl) T.g_str (by decide +kernel) rfl) pa_nil))) (pe_callB (cl_is (T := "str")) (by rfl) T.g_isinstance (by decide +kernel) (pa_cons (pv 2) (pa_cons (pe_bltn (by rfl) T.g_str (by decide +kernel) rfl) pa_nil))) (nomark _)))
    (pss_cons (ps_if (pt_cmpR op_eq (pv 0) pe_str (nomark _)) (pss_one (ps_ret (pe_callTy cl_int1 (by rfl) T.g_int (by decide +kernel) (pa_cons (pe_and (pv 3) (pe_one (pe_cmpR op_eq (pv 1) (pv 2) (nomark _)))) pa_nil)))) pss_nil)
    (pss_cons (ps_if (pt_not (pt_val (pv 3))) (pss_one (ps_ret pe_non)) pss_nil)
    (pss_cons (ps_if (pt_val (pe_callB (cl_is (T := "str")) (by rfl) T.g_isinstance (by decide +kernel) (pa_cons (pv 1) (pa_cons (pe_bltn (by rfl) T.g_str (by decide +kernel) rfl) pa_nil)))) (pss_one (ps_ret (pe_callF (ok_L_of_texts T) (hr.mono (by decide)) (by rfl) (pa_cons (pv 0) (pa_cons (pv 1) (pa_cons (pv 2) pa_nil)))))) pss_nil)
    (pss_one (ps_ret (pe_ix ix_l (pe_lstX (pa_cons (pe_op op_mod (pe_op op_add (pv 1) (pv 2)) pe_int) (pa_cons (pe_op op_mod (pe_op op_sub (pv 1) (pv 2)) pe_int) (pa_cons (pe_callTy cl_int1 (by rfl) T.g_int (by decide +kernel) (pa_cons (pe_cmpR op_lt (pv 1) (pv 2) (nomark _)) pa_nil)) pa_nil)))) (pe_index (pe_lstX (pa_cons pe_str (pa_cons pe_str (pa_cons pe_str pa_nil)))) (pv 0)) (fun _ _ => rfl))))))))

abbrev nm_L_is_so : List Str := ["_law_value_here"]
theorem sc_L_is_so : FnScope nm_L_is_so ["_law_value_here"] (defScope s_L_is_so) := ⟨rfl, rfl, rfl, by decide +kernel, rfl, by decide +kernel, by decide +kernel⟩
theorem ok_L_is_so (T : Top K mg) : OkF P w K mg base 1 "_law_is_so" ["_law_value_here"] sp_L_is_so := by
  refine DefAt.ok (k := 0) T.d_L_is_so sc_L_is_so (fun _ _ _ _ _ _ us hl => match us, hl with | [_], _ => rfl) len_L_is_so (fun f cdv A outer s H vs Q E hr h => ⟨t_L_is_so K, ?_, fun z => rd_L_is_so h⟩)
  have hu := hu_of hr
  exact (pss_one (ps_ret (pe_cmpR op_ninT (pv 0) (pe_tupX (pa_cons pe_int (pa_cons pe_str pa_nil))) (by rfl))))

abbrev nm_L_alike : List Str := ["_law_found", "_law_due", "_law_k"]
theorem sc_L_alike : FnScope nm_L_alike ["_law_found", "_law_due"] (defScope s_L_alike) := ⟨rfl, rfl, rfl, by decide +kernel, rfl, by decide +kernel, by decide +kernel⟩
theorem ok_L_alike (T : Top K mg) (n : Nat) (ih : OkF P w K mg base (n + 1) "_law_alike" ["_law_found", "_law_due"] (sp_L_alike n)) : OkF P w K mg base (n + 1 + 1) "_law_alike" ["_law_found", "_law_due"] (sp_L_alike (n + 1)) := by
  refine DefAt.ok (k := n + 1) T.d_L_alike sc_L_alike (fun _ _ _ _ _ _ us hl => match us, hl with | [_, _], _ => rfl) len_L_alike (fun f cdv A outer s H vs Q E hr h => ⟨t_L_alike K n, ?_, fun z => rd_L_alike h z⟩)
  have hu := hu_of hr
  exact (pss_cons (ps_if (pt_cmpR op_isN1 (pv 1) pe_non (nomark _)) (pss_one (ps_ret (pe_cmpR op_isN1 (pv 0) pe_non (nomark _)))) pss_nil)
    (pss_cons (ps_if (pt_val (pe_callB (cl_is (T := "bool")) (by rfl) T.g_isinstance (by decide +kernel) (pa_cons (pv 1) (pa_cons (pe_bltn (by rfl) T.g_bool (by decide +kernel) rfl) pa_nil)))) (pss_one (ps_ret (pe_and (pe_callB (cl_is (T := "bool")) (by rfl) T.g_isinstance (by decide +kernel) (pa_cons (pv 0) (pa_cons (pe_bltn (by rfl) T.g_bool (by decide +kernel) rfl) pa_nil))) (pe_one (pe_cmpR op_eq (pv 0) (pv 1) (nomark _)))))) pss_nil)
    (pss_cons (ps_if (pt_val (pe_callB (cl_is (T := "int")) (by rfl) T.g_isinstance (by decide +kernel) (pa_cons (pv 1) (pa_cons (pe_bltn (by rfl) T.g_int (by decide +kernel) rfl) pa_nil)))) (pss_one (ps_ret (pe_and (pe_callB (cl_is (T := "int")) (by rfl) T.g_isinstance (by decide +kernel) (pa_cons (pv 0) (pa_cons (pe_bltn (by rfl) T.g_int (by decide +kernel) rfl) pa_nil))) (pe_and (pe_not (pe_callB (cl_is (T := "bool")) (by rfl) T.g_isinstance (by decide +kernel) (pa_cons (pv 0) (pa_cons (pe_bltn (by rfl) T.g_bool (by decide +kernel) rfl) pa_nil)))) (pe_one (pe_cmpR op_eq (pv 0) (pv 1) (nomark _))))))) pss_nil)
    (pss_cons (ps_if (pt_val (pe_callB (cl_is (T := "str")) (by rfl) T.g_isinstance (by decide +kernel) (pa_cons (pv 1) (pa_cons (pe_bltn (by rfl) T.g_str (by decide +kernel) rfl) pa_nil)))) (pss_one (ps_ret (pe_and (pe_callB (cl_is (T := "str")) (by rfl) T.g_isinstance (by decide +kernel) (pa_cons (pv 0) (pa_cons (pe_bltn (by rfl) T.g_str (by decide +kernel) rfl) pa_nil))) (pe_one (pe_cmpR op_eq (pv 0) (pv 1) (nomark _)))))) pss_nil)
    (pss_cons (ps_if (PW.pt (pw_or (pt_cmpR op_ne (pe_callB (cl_is (T := "tuple")) (by rfl) T.g_isinstance (by decide +kernel) (pa_cons (pv 1) (pa_cons (pe_bltn (by rfl) T.g_tuple (by decide +kernel) rfl) pa_nil))) (pe_callB (cl_is (T := "tuple")) (by rfl) T.g_isinstance (by decide +kernel) (pa_cons (pv 0) (pa_cons (pe_bltn (by rfl) T.g_tuple (by decide +kernel) rfl) pa_nil))) (nomark _)) (pw_or1 (pt_cmpR op_ne (pe_callB (cl_is (T := "list")) (by rfl) T.g_isinstance (by decide +kernel) (pa_cons (pv 1) (pa_cons (pe_bltn (by rfl) T.g_list (by decide +kernel) rfl) pa_nil))) (pe_callB (cl_is (T := "list")) (by rfl) T.g_isinstance (by decide +kernel) (pa_cons (pv 0) (pa_cons (pe_bltn (by rfl) T.g_list (by decide +kernel) rfl) pa_nil))) (nomark _))))) (pss_one (ps_ret pe_bl)) pss_nil)
    (pss_cons (ps_if (pt_cmpR op_ne (pe_callB cl_lenQ (by rfl) T.g_len (by decide +kernel) (pa_cons (pv 0) pa_nil)) (pe_callB cl_lenQ (by rfl) T.g_len (by decide +kernel) (pa_cons (pv 1) pa_nil)) (nomark _)) (pss_one (ps_ret pe_bl)) pss_nil)
    (pss_cons (ps_for PassesOwn.never rfl (pi_range1 (by rfl) T.g_range (pa_cons (pe_callB cl_lenQ (by rfl) T.g_len (by decide +kernel) (pa_cons (pv 1) pa_nil)) pa_nil)) (pg_name (i := 2) sc_L_alike.nd rfl (Or.inl rfl))
    (pss_one (ps_if (pt_not (pt_val (pe_callF ih (hr.mono (by omega)) (by rfl) (pa_cons (pe_ix ix_q (pv 0) (pv 2) (fun _ _ => rfl)) (pa_cons (pe_ix ix_q (pv 1) (pv 2) (fun _ _ => rfl)) pa_nil))))) (pss_one (ps_ret pe_bl)) pss_nil)))
    (pss_one (ps_ret pe_bl)))))))))
theorem okR_L_alike (T : Top K mg) : ∀ n : Nat, OkF P w K mg base (n + 1) "_law_alike" ["_law_found", "_law_due"] (sp_L_alike n)
  | 0 => OkF.mono (DefAt.none T.d_L_alike (fun _ _ _ _ _ _ us hl => match us, hl with | [_, _], _ => rfl) no_L_alike) (Nat.zero_le _)
  | n + 1 => ok_L_alike T n (okR_L_alike T n)

abbrev nm_law : List Str := ["_law_script_here", "_law_box", "_law_one", "_law_two", "_law_sign"]
theorem sc_law : FnScope nm_law ["_law_script_here"] (defScope s_law) := ⟨rfl, rfl, rfl, by decide +kernel, rfl, by decide +kernel, by decide +kernel⟩
theorem ok_law (T : Top K mg) : OkF P w K mg base 40 "law" ["_law_script_here"] (sp_law K) := by
  refine DefAt.ok (k := 39) T.d_law sc_law (fun _ _ _ _ _ _ us hl => match us, hl with | [_], _ => rfl) len_law (fun f cdv A outer s H vs Q E hr h => ⟨t_law K, ?_, fun z => rd_law h⟩)
  have hu := hu_of hr
  exact (pss_cons (ps_set (i := 1) sc_law.nd rfl (Or.inl rfl) (pe_callF (ok_L_script T) (hr.mono (by decide)) (by rfl) (pa_cons (pv 0) pa_nil)))
    (pss_cons (ps_set (i := 2) sc_law.nd rfl (Or.inl rfl) (pe_callF (ok_L_value T) (hr.mono (by decide)) (by rfl) (pa_cons (pv 1) pa_nil)))
    (pss_cons (ps_set (i := 3) sc_law.nd rfl (Or.inl rfl) (pe_callF (ok_L_value T) (hr.mono (by decide)) (by rfl) (pa_cons (pv 1) pa_nil)))
    (pss_cons (ps_if (pt_cmpR op_eq (pe_callF (ok_L_take T) (hr.mono (by decide)) (by rfl) (pa_cons (pv 1) (pa_cons pe_int pa_nil))) pe_int (nomark _)) (pss_one (ps_set (i := 3) sc_law.nd rfl (Or.inl rfl) (pv 2))) pss_nil)
    (pss_cons (ps_set (i := 4) sc_law.nd rfl (Or.inl rfl) (pe_ix ix_l (pe_lstX (pa_cons pe_str (pa_cons pe_str (pa_cons pe_str (pa_cons pe_str pa_nil))))) (pe_callF (ok_L_take T) (hr.mono (by decide)) (by rfl) (pa_cons (pv 1) (pa_cons pe_int pa_nil))) (fun _ _ => rfl)))
    (pss_cons (ps_if (pt_not (pt_val (pe_callF (okR_L_alike T 20) (hr.mono (by decide)) (by rfl) (pa_cons (pe_callF (ok_worked T) (hr.mono (by decide)) (by rfl) (pa_cons (pv 4) (pa_cons (pv 2) (pa_cons (pv 3) pa_nil)))) (pa_cons (pe_callF (ok_L_worked T) (hr.mono (by decide)) (by rfl) (pa_cons (pv 4) (pa_cons (pv 2) (pa_cons (pv 3) pa_nil)))) pa_nil))))) (pss_one (ps_ret pe_bl)) pss_nil)
    (pss_cons (ps_if (pt_not (pt_val (pe_callF (okR_L_alike T 20) (hr.mono (by decide)) (by rfl) (pa_cons (pe_callF (ok_is_so T) (hr.mono (by decide)) (by rfl) (pa_cons (pv 2) pa_nil)) (pa_cons (pe_callF (ok_L_is_so T) (hr.mono (by decide)) (by rfl) (pa_cons (pv 2) pa_nil)) pa_nil))))) (pss_one (ps_ret pe_bl)) pss_nil)
    (pss_one (ps_ret (pe_callF (okR_L_alike T 20) (hr.mono (by decide)) (by rfl) (pa_cons (pe_callF (ok_kind_of T) (hr.mono (by decide)) (by rfl) (pa_cons (pv 2) pa_nil)) (pa_cons (pe_ix ix_l (pe_lstX (pa_cons pe_str (pa_cons pe_str pa_nil))) (pe_callTy cl_int1 (by rfl) T.g_int (by decide +kernel) (pa_cons (pe_callB (cl_is (T := "str")) (by rfl) T.g_isinstance (by decide +kernel) (pa_cons (pv 2) (pa_cons (pe_bltn (by rfl) T.g_str (by decide +kernel) rfl) pa_nil))) pa_nil)) (fun _ _ => rfl)) pa_nil))))))))))))

end
end Hn

namespace Hn
open PySem PySem.Spec PyProof.Rows L2
/-! ### the head: what the top leaves -/
def mkD (x : Str) (m : Option Str) (qual : Str) (st : Stmt) : He.DefD := ⟨(x, m), m.getD x, qual, defArgs st, defBody st, defScope st, [], []⟩
def fn0 : List He.DefD := [mkD "kind_of" none "kind_of" s_kind_of, mkD "is_so" none "is_so" s_is_so, mkD "of_numbers" none "of_numbers" s_of_numbers, mkD "of_texts" none "of_texts" s_of_texts, mkD "worked" none "worked" s_worked, mkD "_law_script" none "_law_script" s_L_script, mkD "_law_take" none "_law_take" s_L_take, mkD "_law_alike" none "_law_alike" s_L_alike, mkD "_law_text" none "_law_text" s_L_text, mkD "_law_name" none "_law_name" s_L_name, mkD "_law_part" none "_law_part" s_L_part, mkD "_law_row" none "_law_row" s_L_row, mkD "_law_statement" none "_law_statement" s_L_statement, mkD "_law_counted" none "_law_counted" s_L_counted, mkD "_law_program" none "_law_program" s_L_program, mkD "_law_value" none "_law_value" s_L_value, mkD "_law_names" none "_law_names" s_L_names, mkD "_law_of_texts" none "_law_of_texts" s_L_of_texts, mkD "_law_worked" none "_law_worked" s_L_worked, mkD "_law_is_so" none "_law_is_so" s_L_is_so]
def fn1 : List He.DefD := [mkD "law" none "law" s_law]
def fnAll : List He.DefD := fn0 ++ fn1
def fa0 : List He.Fa := [.glo "kind_of", .glo "is_so", .glo "of_numbers", .glo "of_texts", .glo "worked", .glo "_law_script", .glo "_law_take", .glo "_law_alike", .glo "_law_text", .glo "_law_name", .glo "_law_part", .glo "_law_row", .glo "_law_statement", .glo "_law_counted", .glo "_law_program", .glo "_law_value", .glo "_law_names", .glo "_law_of_texts", .glo "_law_worked", .glo "_law_is_so", .glo "law", .free "len", .free "range", .free "isinstance", .free "int", .free "str", .free "list", .free "tuple", .free "dict", .free "sum"]
def fa1 : List He.Fa := [.free "enumerate", .free "sorted", .free "bool", .free "reversed", .int "MODULE" 10007, .int "MOST_SIGNS" 12]
def faAll : List He.Fa := fa0 ++ fa1
abbrev R : PySem.W.OpenRow := PySem.W.OpenLaw.row PySem.Challenge.rw_hunch_k01_values
abbrev hk : PySem.W.Hook := He.hookD 6 faAll fnAll
def ob (s : PySem.W.SharedT) : He.AlD := He.obsDG 6 faAll fnAll (HandSHeadRun.getT s)
theorem ob_eq (s : PySem.W.SharedT) : ob s = hk.obs s.abs := He.obsDG_eq (HandSHeadRun.getT_eq s)
def nm0 : List Str := ["MODULE", "MOST_SIGNS", "kind_of", "is_so", "of_numbers", "of_texts", "worked", "_law_script", "_law_take", "_law_alike", "_law_text", "_law_name", "_law_part", "_law_row", "_law_statement", "_law_counted", "_law_program", "_law_value", "_law_names", "_law_of_texts", "_law_worked", "_law_is_so"]
def loose : List Str := nm0
theorem run (w : World) : HandSHeadRun.RunEq R (PySem.W.view R.prog [24]) hk ob 20000 loose w := by
  intro os
  kernel_rfl
theorem top_of {K : PySem.W.Frag} {h : Heap} {mg : Str → Option Value} (X : K.In h) (G : h.Ns mainGlobals mg) (c : He.SaysD faAll fnAll K) : Top K mg where
  d_kind_of := by
    obtain ⟨fd, F⟩ := c.def_ 0 (d := mkD "kind_of" none "kind_of" s_kind_of) rfl
    exact ⟨_, fd, F, He.glo_ok X G (c.fact 0 (f := .glo "kind_of") rfl)⟩
  d_is_so := by
    obtain ⟨fd, F⟩ := c.def_ 1 (d := mkD "is_so" none "is_so" s_is_so) rfl
    exact ⟨_, fd, F, He.glo_ok X G (c.fact 1 (f := .glo "is_so") rfl)⟩
  d_of_numbers := by
    obtain ⟨fd, F⟩ := c.def_ 2 (d := mkD "of_numbers" none "of_numbers" s_of_numbers) rfl
    exact ⟨_, fd, F, He.glo_ok X G (c.fact 2 (f := .glo "of_numbers") rfl)⟩
  d_of_texts := by
    obtain ⟨fd, F⟩ := c.def_ 3 (d := mkD "of_texts" none "of_texts" s_of_texts) rfl
    exact ⟨_, fd, F, He.glo_ok X G (c.fact 3 (f := .glo "of_texts") rfl)⟩
  d_worked := by
    obtain ⟨fd, F⟩ := c.def_ 4 (d := mkD "worked" none "worked" s_worked) rfl
    exact ⟨_, fd, F, He.glo_ok X G (c.fact 4 (f := .glo "worked") rfl)⟩
  d_L_script := by
    obtain ⟨fd, F⟩ := c.def_ 5 (d := mkD "_law_script" none "_law_script" s_L_script) rfl
    exact ⟨_, fd, F, He.glo_ok X G (c.fact 5 (f := .glo "_law_script") rfl)⟩
  d_L_take := by
    obtain ⟨fd, F⟩ := c.def_ 6 (d := mkD "_law_take" none "_law_take" s_L_take) rfl
    exact ⟨_, fd, F, He.glo_ok X G (c.fact 6 (f := .glo "_law_take") rfl)⟩
  d_L_alike := by
    obtain ⟨fd, F⟩ := c.def_ 7 (d := mkD "_law_alike" none "_law_alike" s_L_alike) rfl
    exact ⟨_, fd, F, He.glo_ok X G (c.fact 7 (f := .glo "_law_alike") rfl)⟩
  d_L_text := by
    obtain ⟨fd, F⟩ := c.def_ 8 (d := mkD "_law_text" none "_law_text" s_L_text) rfl
    exact ⟨_, fd, F, He.glo_ok X G (c.fact 8 (f := .glo "_law_text") rfl)⟩
  d_L_name := by
    obtain ⟨fd, F⟩ := c.def_ 9 (d := mkD "_law_name" none "_law_name" s_L_name) rfl
    exact ⟨_, fd, F, He.glo_ok X G (c.fact 9 (f := .glo "_law_name") rfl)⟩
  d_L_part := by
    obtain ⟨fd, F⟩ := c.def_ 10 (d := mkD "_law_part" none "_law_part" s_L_part) rfl
    exact ⟨_, fd, F, He.glo_ok X G (c.fact 10 (f := .glo "_law_part") rfl)⟩
  d_L_row := by
    obtain ⟨fd, F⟩ := c.def_ 11 (d := mkD "_law_row" none "_law_row" s_L_row) rfl
    exact ⟨_, fd, F, He.glo_ok X G (c.fact 11 (f := .glo "_law_row") rfl)⟩
  d_L_statement := by
    obtain ⟨fd, F⟩ := c.def_ 12 (d := mkD "_law_statement" none "_law_statement" s_L_statement) rfl
    exact ⟨_, fd, F, He.glo_ok X G (c.fact 12 (f := .glo "_law_statement") rfl)⟩
  d_L_counted := by
    obtain ⟨fd, F⟩ := c.def_ 13 (d := mkD "_law_counted" none "_law_counted" s_L_counted) rfl
    exact ⟨_, fd, F, He.glo_ok X G (c.fact 13 (f := .glo "_law_counted") rfl)⟩
  d_L_program := by
    obtain ⟨fd, F⟩ := c.def_ 14 (d := mkD "_law_program" none "_law_program" s_L_program) rfl
    exact ⟨_, fd, F, He.glo_ok X G (c.fact 14 (f := .glo "_law_program") rfl)⟩
  d_L_value := by
    obtain ⟨fd, F⟩ := c.def_ 15 (d := mkD "_law_value" none "_law_value" s_L_value) rfl
    exact ⟨_, fd, F, He.glo_ok X G (c.fact 15 (f := .glo "_law_value") rfl)⟩
  d_L_names := by
    obtain ⟨fd, F⟩ := c.def_ 16 (d := mkD "_law_names" none "_law_names" s_L_names) rfl
    exact ⟨_, fd, F, He.glo_ok X G (c.fact 16 (f := .glo "_law_names") rfl)⟩
  d_L_of_texts := by
    obtain ⟨fd, F⟩ := c.def_ 17 (d := mkD "_law_of_texts" none "_law_of_texts" s_L_of_texts) rfl
    exact ⟨_, fd, F, He.glo_ok X G (c.fact 17 (f := .glo "_law_of_texts") rfl)⟩
  d_L_worked := by
    obtain ⟨fd, F⟩ := c.def_ 18 (d := mkD "_law_worked" none "_law_worked" s_L_worked) rfl
    exact ⟨_, fd, F, He.glo_ok X G (c.fact 18 (f := .glo "_law_worked") rfl)⟩
  d_L_is_so := by
    obtain ⟨fd, F⟩ := c.def_ 19 (d := mkD "_law_is_so" none "_law_is_so" s_L_is_so) rfl
    exact ⟨_, fd, F, He.glo_ok X G (c.fact 19 (f := .glo "_law_is_so") rfl)⟩
  d_law := by
    obtain ⟨fd, F⟩ := c.def_ 20 (d := mkD "law" none "law" s_law) rfl
    exact ⟨_, fd, F, He.glo_ok X G (c.fact 20 (f := .glo "law") rfl)⟩
  g_len := He.free_ok X G (c.fact 21 (f := .free "len") rfl)
  g_range := He.free_ok X G (c.fact 22 (f := .free "range") rfl)
  g_isinstance := He.free_ok X G (c.fact 23 (f := .free "isinstance") rfl)
  g_int := He.free_ok X G (c.fact 24 (f := .free "int") rfl)
  g_str := He.free_ok X G (c.fact 25 (f := .free "str") rfl)
  g_list := He.free_ok X G (c.fact 26 (f := .free "list") rfl)
  g_tuple := He.free_ok X G (c.fact 27 (f := .free "tuple") rfl)
  g_dict := He.free_ok X G (c.fact 28 (f := .free "dict") rfl)
  g_sum := He.free_ok X G (c.fact 29 (f := .free "sum") rfl)
  g_enumerate := He.free_ok X G (c.fact 30 (f := .free "enumerate") rfl)
  g_sorted := He.free_ok X G (c.fact 31 (f := .free "sorted") rfl)
  g_bool := He.free_ok X G (c.fact 32 (f := .free "bool") rfl)
  g_reversed := He.free_ok X G (c.fact 33 (f := .free "reversed") rfl)
  c_MODULE := He.int_ok X G (c.fact 34 (f := .int "MODULE" 10007) rfl)
  c_MOST_SIGNS := He.int_ok X G (c.fact 35 (f := .int "MOST_SIGNS" 12) rfl)
theorem facts {P : Program} {w : World} {K : PySem.W.Frag} {h : Heap} {mg : Str → Option Value} {f : Addr} (X : K.In h) (G : h.Ns mainGlobals mg) (hfa : mg ("law" : Str) = some (.ref f)) (c : He.SaysD faAll fnAll K) :
    ∃ fd : FuncData, (∀ (s : Shared) (v : Value), BindsTo s fd ⟨[v], []⟩ [("_law_script_here", v)]) ∧ ∀ base : Heap, K.In base → base.Ns mainGlobals mg → FnOk P w K mg base CX0 40 f fd ["_law_script_here"] (sp_law K) := by
  have T := top_of X G c
  obtain ⟨fd, F⟩ := c.def_ 20 (d := mkD "law" none "law" s_law) rfl
  have e := hfa.symm.trans (He.glo_ok X G (c.fact 20 (f := .glo "law") rfl))
  have b := FunD.bindsA (ps := ["_law_script_here"]) F fun _ _ _ _ _ _ us hl => match us, hl with | [_], _ => rfl
  cases e
  refine ⟨fd, fun s v => b s [v] rfl, fun base _ _ => ?_⟩
  obtain ⟨f', fd', F', hm, kp, _, fa⟩ := ok_law (P := P) (w := w) (base := base) T
  have e1 := hm.symm.trans hfa
  cases e1
  have e2 := fa.uni (funcAt F)
  cases e2
  exact F'
end Hn
open PySem PySem.W PySem.Calls PyProof.Rows
theorem PySem.Challenge.cw_hunch_k01_values_holds : PySem.Challenge.rw_hunch_k01_values.Holds := by
  w_on; o_law
  refine HandSHeadRun.head_any (r := OpenLaw.row PySem.Challenge.rw_hunch_k01_values) (q := view (OpenLaw.row PySem.Challenge.rw_hunch_k01_values).prog [24]) (H := Hn.hk) (ob := Hn.ob) (M := 20000) (loose := Hn.loose) (d := HandSHeadRun.topDef (OpenLaw.row PySem.Challenge.rw_hunch_k01_values).prog 24) (kwd := []) Hn.ob_eq
    (by kernel_rfl) (fun s => by kernel_rfl) Hn.run (by kernel_rfl) (by kernel_rfl) (by kernel_rfl) (by rfl) (by first | assumption | decide +kernel) (by decide +kernel) ⟨rfl, rfl, rfl, rfl, rfl, by decide +kernel⟩ ?hw ?hc
  case hw => w_witness2
  case hc =>
    refine L2.walk_ofE (l := PySem.Challenge.rw_hunch_k01_values) (n := 63) (k := 40) (x := "_law_script_here") (CX := L2.CX0) rfl (by decide) (by kernel_rfl) ⟨rfl, by decide, by decide⟩ ?F (fun _ _ _ _ z => z)
    intro w mg fa h Y G hmg0
    obtain ⟨K, KX, c⟩ := Y
    have hmg : mg ("law" : PySem.Str) = some (.ref fa) := by
      have e : (HandSHeadRun.topDef (OpenLaw.row PySem.Challenge.rw_hunch_k01_values).prog 24).name = ("law" : PySem.Str) := by kernel_rfl
      rw [← e]
      exact hmg0
    obtain ⟨fd, hb, hF⟩ := Hn.facts (P := (PySem.Challenge.rw_hunch_k01_values).prog) (w := w) KX G hmg c
    exact ⟨K, fd, Hn.sp_law K, KX, hb, fun H a ns hl _ hS => ⟨a, ns, rfl, hS, hl, fun _ => rfl⟩, hF⟩


