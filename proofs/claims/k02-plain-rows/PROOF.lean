import PyProof.Rows.All
import Wide.All
import OpenK.AllK
import Wide.FinOn
import KE.KStateDown
import Lean
import HandS.ForMost
import HandS.More
import HandS.IsInst
import HandS.TupAny
import HandS.Defaults
import HandS.DictComp
import HandS.Walk
import HandS.Head0
import HandS.Head1
import HandS.Head2
import HandS.HeadEnd
import HandS.HeadHook1
import HandS.HeadHook2
import PySem.Challenge.RW_hunch_k02_plain_rows
set_option Elab.async false
set_option linter.all false
set_option maxRecDepth 100000
set_option maxHeartbeats 4000000
set_option autoImplicit false
/-! The layer of these proofs: a def's promise by its name, readings of the heap by plain equations, frames. -/
namespace Hn
open PySem PySem.Spec PyProof.Rows L2

/-! ### sizes: what stands in the heap is within the line -/
def HSz (H : Hp) : Prop := ∀ a, (∀ xs, H a = some (.lst xs) → xs.length ≤ sizeLine) ∧ (∀ xs, H a = some (.tup xs) → xs.length ≤ sizeLine) ∧ ∀ kvs, H a = some (.dK kvs) → kvs.length ≤ sizeLine
theorem hsz_of {X : Cx} {pins : List (Addr × Obj)} {σ : List (Option V)} {H : Hp} {s : Shared} (I : Inv X pins σ H s) : HSz H := fun a => by
  refine ⟨fun xs h => ?_, fun xs h => ?_, fun xs h => ?_⟩
  · obtain ⟨z, _⟩ := I.hok a _ h; exact z
  · obtain ⟨z, _⟩ := I.hok a _ h; exact z
  · obtain ⟨z, _⟩ := I.hok a _ h; exact z
theorem pssSz {X : Cx} {b : List Stmt} {t : TS} (h : PSs X b t) : PSs X b (fun D σ H => HSz H → t D σ H) := ⟨fun pins s σ H D I q => h.run pins s σ H D I (q (hsz_of I))⟩

/-! ### defs by name -/
section
variable (P : Program) (w : World) (K : PySem.W.Frag) (mg : Str → Option Value) (base : Heap)
/-- the function object at f -/
def FuncAt (K : PySem.W.Frag) (f : Addr) (fd : FuncData) : Prop := ∃ oc od osl, K.lookup f = some ⟨oc, od, .func fd, osl⟩
/-- the module's def x keeps sp, k calls deep at most -/
def OkF (k : Nat) (x : Str) (ps : List Str) (sp : Sp) : Prop :=
  ∃ f fd, FnOk P w K mg base CX0 k f fd ps sp ∧ mg x = some (.ref f) ∧ PySem.W.keepIn K (.ref f) = true ∧ Binds K fd ps [] ∧ FuncAt K f fd
/-- the def st stands under the name x -/
def DefAt (x : Str) (st : Stmt) : Prop := ∃ f fd, FunD K x x (defArgs st) (defBody st) (defScope st) [] [] f fd ∧ mg x = some (.ref f)
end
section
variable {P : Program} {w : World} {K : PySem.W.Frag} {mg : Str → Option Value} {base : Heap}
theorem funcAt {x qual : Str} {params : Arguments} {body : List Stmt} {scope : Scope} {dvs : List V} {kws : List (Str × V)} {f : Addr} {fd : FuncData} (F : FunD K x qual params body scope dvs kws f fd) : FuncAt K f fd := by
  obtain ⟨oc, od, _, _, _, _, _, _, _, osl, _, e, _⟩ := F.ex
  exact ⟨oc, od, osl, e⟩
theorem FuncAt.uni {f : Addr} {fd fd' : FuncData} (a : FuncAt K f fd) (b : FuncAt K f fd') : fd = fd' := by
  obtain ⟨_, _, _, e⟩ := a
  obtain ⟨_, _, _, e'⟩ := b
  rw [e] at e'
  simp only [Option.some.injEq, Obj.mk.injEq, Data.func.injEq] at e'
  exact e'.2.2.1
theorem OkF.mono {j k : Nat} {x : Str} {ps : List Str} {sp : Sp} (F : OkF P w K mg base j x ps sp) (h : j ≤ k) : OkF P w K mg base k x ps sp := by
  obtain ⟨f, fd, F, a, b, c, d⟩ := F
  exact ⟨f, fd, F.mono h, a, b, c, d⟩
theorem DefAt.ok {x : Str} {st : Stmt} {N ps : List Str} {k : Nat} {sp : Sp} (D : DefAt K mg x st) (S : FnScope N ps (defScope st))
    (hb : ∀ (kV doc pm : Value) (an : Option Addr) (cdv ct : Value) (us : List Value), us.length = ps.length → bindArgs (PySem.W.fnOf x x (defArgs st) (defBody st) (defScope st) .none kV doc pm an cdv ct) ⟨us, []⟩ = pure (ps.zip us))
    (len : ∀ vs H Q E, sp vs H Q E → vs.length = ps.length)
    (hbody : ∀ (f : Addr) (cdv : Value) (A : Around) (outer : List Env) (s : Shared) (H : Hp) (vs : List V) (Q : VK) (E : XK), Room k (A.deeper (envOfC x (defScope st) s.heap.objs.size f cdv)) → sp vs H Q E →
      ∃ t, PSs (cxOf CX0 P w K mg base N x (defScope st) f cdv A outer s H E).nox (defBody st) t ∧ (HSz H → t { nx := fun _ H' => Q .non H', rt := Q } (start N vs) H)) : OkF P w K mg base (k + 1) x ps sp := by
  obtain ⟨f, fd, F, hm⟩ := D
  refine ⟨f, fd, F.ok S len fun cdv A outer s H vs Q E hr h => ?_, hm, F.kp, F.bindsN hb, funcAt F⟩
  obtain ⟨t, h1, h2⟩ := hbody f cdv A outer s H vs Q E hr h
  exact ⟨_, (pssSz h1).nox, h2⟩
/-- nothing is asked: nothing is to be kept -/
theorem DefAt.none {x : Str} {st : Stmt} {ps : List Str} {sp : Sp} (D : DefAt K mg x st)
    (hb : ∀ (kV doc pm : Value) (an : Option Addr) (cdv ct : Value) (us : List Value), us.length = ps.length → bindArgs (PySem.W.fnOf x x (defArgs st) (defBody st) (defScope st) .none kV doc pm an cdv ct) ⟨us, []⟩ = pure (ps.zip us))
    (no : ∀ vs H Q E, ¬ sp vs H Q E) : OkF P w K mg base 0 x ps sp := by
  obtain ⟨f, fd, F, hm⟩ := D
  exact ⟨f, fd, ⟨fun vs H Q E h => absurd h (no vs H Q E), fun A outer s H args us vs Q E _ _ _ _ h => absurd h (no vs H Q E)⟩, hm, F.kp, F.bindsN hb, funcAt F⟩
end
section
variable {X : Cx} {k : Nat} {x : Str} {ps : List Str} {sp : Sp} {e : Expr} {es : List Expr} {t : TA} {p pos : Pos}
theorem pe_callF (F : OkF X.prog X.w X.K X.mg X.base k x ps sp) (hr : Room k X.A) (hg : Gl X x) (ha : PA X (e :: es) t) (hdb : (x == ("__debug__" : Str)) = false := by decide) (he : starEach (e :: es) X.env = (false, eval e X.env) :: starEach es X.env := by rfl) (hpl : (backTo pos (starEach es X.env)).any (·.1) = false := by rfl) :
    PE X (.Call (.Name x p) (e :: es) [] pos) (tCall sp [] E0 t) := by
  obtain ⟨f, fd, F, hm, kp, b, _⟩ := F
  exact pe_call F hr hg hm kp b .nil pass0 ha hdb he hpl
end

/-! ### weaker readings -/
section
variable {X : Cx}
theorem peM {e : Expr} {t t' : TE} (h : PE X e t) (m : ∀ σ H Q, t' σ H Q → t σ H Q) : PE X e t' := ⟨fun pins s σ H Q I q => h.run pins s σ H Q I (m σ H Q q)⟩
theorem ptM {e : Expr} {t t' : TT} (h : PT X e t) (m : ∀ σ H Q, t' σ H Q → t σ H Q) : PT X e t' := ⟨fun pins s σ H Q I q => h.run pins s σ H Q I (m σ H Q q)⟩
theorem psM {e : Stmt} {t t' : TS} (h : PS X e t) (m : ∀ D σ H, t' D σ H → t D σ H) : PS X e t' := ⟨fun pins s σ H D I q => h.run pins s σ H D I (m D σ H q)⟩
/-- what follows may be weaker -/
def tMono (t : TE) : TE := fun σ H Q => ∃ Q0 : VK, t σ H Q0 ∧ ∀ x H1, Q0 x H1 → Q x H1
theorem mo {e : Expr} {t : TE} (h : PE X e t) : PE X e (tMono t) := by
  refine ⟨fun pins s σ H Q I ⟨Q0, h0, m⟩ => ?_⟩
  refine thn (h.run pins s σ H Q0 I h0) fun u s' ⟨v, H', I', r, q⟩ => ⟨v, H', I', r, m v H' q⟩
def tMonoA (t : TA) : TA := fun σ H Q => ∃ Q0 : List V → Hp → Prop, t σ H Q0 ∧ ∀ x H1, Q0 x H1 → Q x H1
theorem moA {es : List Expr} {t : TA} (h : PA X es t) : PA X es (tMonoA t) := by
  refine ⟨fun pos pins s σ H Q I ⟨Q0, h0, m⟩ => ?_⟩
  refine thn (h.run pos pins s σ H Q0 I h0) fun u s' ⟨v, H', I', r, q⟩ => ⟨v, H', I', r, m v H' q⟩
theorem opM {f : Value → Value → Sem Value} {r r' : R2} (h : OpR X f r) (m : ∀ x y H Q, r' x y H Q → r x y H Q) : OpR X f r' := fun pins s σ H x y v u Q I rx ry q => h pins s σ H x y v u Q I rx ry (m x y H Q q)
theorem ixM {r r' : R2} (h : IxR X r) (m : ∀ x y H Q, r' x y H Q → r x y H Q) : IxR X r' := fun a b pins s σ H x y v u Q I rx ry q => h a b pins s σ H x y v u Q I rx ry (m x y H Q q)
theorem clM {f : Value} {r r' : List V → Hp → VK → Prop} (h : CallR X f r) (m : ∀ xs H Q, r' xs H Q → r xs H Q) : CallR X f r' := fun pins s σ H xs us Q I r q => h pins s σ H xs us Q I r (m xs H Q q)
end

/-! ### a new object, a changed object -/
structure Al (H : Hp) (p : Addr) (o : HO) (H' : Hp) : Prop where
  new : H p = none
  at_ : H' p = some o
  k : ∀ {b u}, H b = some u → H' b = some u
structure Mu (H : Hp) (p : Addr) (o : HO) (H' : Hp) : Prop where
  nt : ∀ xs, H p ≠ some (.tup xs)
  at_ : H' p = some o
  k : ∀ {b u}, H b = some u → b ≠ p → H' b = some u
theorem Al.of {H : Hp} {p : Addr} {o : HO} (h : H p = none) : Al H p o (upd H p o) := ⟨h, upd_same, fun e => by rw [upd_ne (ne_of_none e h)]; exact e⟩
theorem Mu.of {H : Hp} {p : Addr} {o u : HO} (h : H p = some u) (hu : ∀ xs, u ≠ .tup xs) : Mu H p o (upd H p o) :=
  ⟨fun xs e => hu xs (by rw [h] at e; exact Option.some.inj e), upd_same, fun e ne => by rw [upd_ne ne]; exact e⟩

/-! ### readings of the heap by equations -/
def rXL : R2 := fun x y H Q => ∃ p xs i v, x = .ref p ∧ y = .int i ∧ H p = some (.lst xs) ∧ atI xs i = some v ∧ Q v H
def rXT : R2 := fun x y H Q => ∃ p xs i v, x = .ref p ∧ y = .int i ∧ H p = some (.tup xs) ∧ atI xs i = some v ∧ Q v H
/-- x in a tuple that was just laid -/
def rInT (neg : Bool) : R2 := fun x y H Q => ∃ p xs, y = .ref p ∧ H p = some (.tup xs) ∧ flatV x = true ∧ xs.all flatV = true ∧ Q (.bl (if neg then !inV x xs else inV x xs)) H
def rLenL : List V → Hp → VK → Prop := fun vs H Q => ∃ p xs, vs = [.ref p] ∧ H p = some (.lst xs) ∧ Q (.int xs.length) H
def rLenT : List V → Hp → VK → Prop := fun vs H Q => ∃ p xs, vs = [.ref p] ∧ H p = some (.tup xs) ∧ Q (.int xs.length) H
def rLenS : List V → Hp → VK → Prop := fun vs H Q => ∃ z, vs = [.str z] ∧ z.length ≤ sizeLine ∧ Q (.int z.length) H
def rInt1 : List V → Hp → VK → Prop := fun vs H Q => (∃ i, vs = [.int i] ∧ Q (.int i) H) ∨ ∃ k, vs = [.bl k] ∧ Q (.int (if k then 1 else 0)) H
def rTupL : List V → Hp → VK → Prop := fun vs H Q => ∃ p xs, vs = [.ref p] ∧ H p = some (.lst xs) ∧ ∀ l H', Al H l (.tup xs) H' → Q (.ref l) H'
def rLstL : List V → Hp → VK → Prop := fun vs H Q => ∃ p xs, vs = [.ref p] ∧ H p = some (.lst xs) ∧ ∀ l H', Al H l (.lst xs) H' → Q (.ref l) H'
/-- isinstance(x, a built-in class) -/
def rIs (T : String) : List V → Hp → VK → Prop := fun vs H Q => ∃ x b, vs = [x, .ty T] ∧ (∃ n, (match x with
  | .non => n = "NoneType"
  | .bl _ => n = "bool"
  | .int _ => n = "int"
  | .str _ => n = "str"
  | .ref a => (match H a with
    | some (.lst _) => n = "list"
    | some (.tup _) => n = "tuple"
    | some (.dK _) => n = "dict"
    | _ => False)
  | _ => False) ∧ kitB n T = some b) ∧ Q (.bl b) H
/-- a list of ints beside another -/
def rEqI : R2 := fun x y H Q => ∃ (p q : Addr) (ns ms : List Int), x = .ref p ∧ y = .ref q ∧ H p = some (.lst (ns.map V.int)) ∧ H q = some (.lst (ms.map V.int)) ∧ Q (.bl (decide (ns = ms))) H
def rCt : R2 := fun x y H Q => ∃ l b xs zs, x = .ref l ∧ y = .ref b ∧ H l = some (.lst xs) ∧ H b = some (.lst zs) ∧ xs.length + zs.length ≤ sizeLine ∧ ∀ p H', Al H p (.lst (xs ++ zs)) H' → Q (.ref p) H'
def rStL : V → V → V → Hp → (Hp → Prop) → Prop := fun o i v H Q => ∃ p xs k j, o = .ref p ∧ i = .int k ∧ H p = some (.lst xs) ∧ ixN xs.length k = some j ∧ ∀ H', Mu H p (.lst (xs.set j v)) H' → Q H'
def rSL : V → Option Int → Option Int → Hp → VK → Prop := fun x lo hi H Q => ∃ a xs, x = .ref a ∧ H a = some (.lst xs) ∧ ∀ p H', Al H p (.lst (cutV xs lo hi)) H' → Q (.ref p) H'
section
variable {X : Cx} {a b o : Expr} {ta tb : TE} {pos : Pos}
theorem ix_l : IxR X rXL := ixM ix_list fun _ _ _ _ ⟨p, xs, i, v, e1, e2, h, e, q⟩ => ⟨p, xs, i, v, e1, e2, SqL.of h, e, q⟩
theorem ix_t : IxR X rXT := ixM ix_tup fun _ _ _ _ ⟨p, xs, i, v, e1, e2, h, e, q⟩ => ⟨p, xs, i, v, e1, e2, SqT.of h, e, q⟩
theorem op_inT : OpR X (compareOp .In) (rInT false) := opM op_in_seq fun _ _ _ _ ⟨p, xs, e, h, h1, h2, q⟩ => ⟨p, xs, e, .inr (SqT.of h), h1, h2, q⟩
theorem op_ninT : OpR X (compareOp .NotIn) (rInT true) := opM op_notIn_seq fun _ _ _ _ ⟨p, xs, e, h, h1, h2, q⟩ => ⟨p, xs, e, .inr (SqT.of h), h1, h2, q⟩
theorem cl_lenL : CallR X (.builtin "len") rLenL := clM call_len_seq fun _ _ _ ⟨p, xs, e, h, q⟩ => ⟨p, xs, e, .inl (SqL.of h), q⟩
theorem cl_lenT : CallR X (.builtin "len") rLenT := clM call_len_seq fun _ _ _ ⟨p, xs, e, h, q⟩ => ⟨p, xs, e, .inr (SqT.of h), q⟩
theorem cl_lenS : CallR X (.builtin "len") rLenS := call_len_str
theorem cl_int1 : CallR X (.type "int") rInt1 := call_int1
theorem cl_tupL : CallR X (.type "tuple") rTupL := clM call_tuple_of fun _ _ _ ⟨p, xs, e, h, q⟩ => ⟨p, xs, e, .inl ⟨SqL.of h, fun l hl => q l _ (.of hl)⟩⟩
theorem cl_lstL : CallR X (.type "list") rLstL := clM call_list_of fun _ _ _ ⟨p, xs, e, h, q⟩ => ⟨p, xs, e, .inl (SqL.of h), fun l hl => q l _ (.of hl)⟩
theorem op_ct : OpR X (binaryOp .Add) rCt := opM op_cat fun _ _ _ _ ⟨l, b, xs, zs, e1, e2, h1, h2, hz, q⟩ => ⟨l, b, xs, zs, e1, e2, h1, h2, hz, fun p hp => q p _ (.of hp)⟩
theorem set_l : PSet X rStL := fun pins s σ H o i v ov iv u Q I ro ri rv ⟨p, xs, k, j, e1, e2, h, hj, q⟩ => set_list pins s σ H o i v ov iv u Q I ro ri rv ⟨p, xs, k, j, e1, e2, h, hj, q _ (.of h fun _ z => by cases z)⟩
theorem sl_l : SlR X rSL := fun pins s σ H x v vl vu lo hi sl Q I rx hs pl pu ⟨a, xs, e, h, q⟩ => sl_list pins s σ H x v vl vu lo hi sl Q I rx hs pl pu ⟨a, xs, e, SqL.of h, fun p hp => q p _ (.of hp)⟩
theorem cl_is {T : String} : CallR X (.builtin "isinstance") (rIs T) := by
  refine clM call_isi ?_
  rintro vs H Q ⟨x, b, e, ⟨n, hn, hk⟩, q⟩
  refine ⟨x, .ty T, .type n, .type T, b, e, .ty T, ?_, kit_ty hk, q⟩
  cases x with
  | non => cases hn; exact .base .non
  | bl b => cases hn; exact .base (.bl b)
  | int i => cases hn; exact .base (.int i)
  | str s => cases hn; exact .base (.str s)
  | ref a =>
    have hn' : (match H a with
      | some (.lst _) => n = "list"
      | some (.tup _) => n = "tuple"
      | some (.dK _) => n = "dict"
      | _ => False) := hn
    cases ea : H a with
    | none => rw [ea] at hn'; exact hn'.elim
    | some u =>
      rw [ea] at hn'
      cases u with
      | lst xs => cases hn'; exact .base (.lst ea)
      | tup xs => cases hn'; exact .base (.tup ea)
      | dK kvs => cases hn'; exact .base (.dK ea)
      | _ => exact hn'.elim
  | _ => exact hn.elim
end

/-! ### words: texts that differ -/
def wds : List Str := (["num", "text", "name", "add", "sub", "less", "same", "say", "set", "unless", "go", "top", "end", "row"] : List Str) ++ ((["if", "while",
  "turn", "get", "is", "so", "put", "again", "leave", "n", "t", "any", "done", "dry"] : List Str) ++ (["mixed", "else",
  "place", "names", "half", "left", "said", "last", "rows", "many", "slots", "kinds", "stack", "made"] : List Str))
def wd (i : Nat) : Str := wds.getD i ""
theorem wds_nd : wds.Nodup := by decide +kernel
theorem wds_len : wds.length = 42 := by decide +kernel
theorem wd_get {i : Nat} (h : i < 42) : wds[i]? = some (wd i) := by
  have h' : i < wds.length := by rw [wds_len]; exact h
  unfold wd
  rw [List.getD_eq_getElem?_getD, List.getElem?_eq_getElem h']
  rfl
/-- two words of the list are one only at one place -/
theorem wd_eq {i j : Nat} (hi : i < 42) (hj : j < 42) : (wd i = wd j) = (i = j) := by
  refine propext ⟨fun e => ?_, fun e => by rw [e]⟩
  have h1 := wd_get hi
  have h2 := wd_get hj
  rw [← e] at h2
  exact nd_ix wds_nd h1 h2
theorem wd_ne0 {i : Nat} (hi : i < 42) : (wd i = ("" : Str)) = False := by
  refine eq_false fun e => ?_
  have a : ("" : Str) ∉ wds := by decide +kernel
  exact a (by rw [← e]; exact List.mem_of_getElem? (wd_get hi))
theorem wd_ne0' {i : Nat} (hi : i < 42) : (("" : Str) = wd i) = False := (propext eq_comm).trans (wd_ne0 hi)
theorem eqV_str (a b : Str) : eqV (.str a) (.str b) = decide (a = b) := by
  show (a == b) = decide (a = b)
  by_cases e : a = b
  · subst e; simp
  · rw [decide_eq_false e]; exact beq_eq_false_iff_ne.mpr e
theorem eqV_int (a b : Int) : eqV (.int a) (.int b) = decide (a = b) := by
  show (a == b) = decide (a = b)
  by_cases e : a = b
  · subst e; simp
  · rw [decide_eq_false e]; exact beq_eq_false_iff_ne.mpr e
theorem eqV_is (a : Int) (b : Str) : eqV (.int a) (.str b) = false := rfl
theorem eqV_si (a : Int) (b : Str) : eqV (.str b) (.int a) = false := rfl
theorem inV_nil (x : V) : inV x [] = false := rfl
theorem inV_cons (x y : V) (ys : List V) : inV x (y :: ys) = (eqV y x || inV x ys) := rfl

/-! ### items at written places -/
theorem atI0 {α : Type} (x : α) (r : List α) : atI (x :: r) 0 = some x := atI_nat (j := 0) rfl
theorem atI1 {α : Type} (x y : α) (r : List α) : atI (x :: y :: r) 1 = some y := atI_nat (j := 1) rfl
theorem atI2 {α : Type} (x y z : α) (r : List α) : atI (x :: y :: z :: r) 2 = some z := atI_nat (j := 2) rfl
theorem atI3 {α : Type} (x y z u : α) (r : List α) : atI (x :: y :: z :: u :: r) 3 = some u := atI_nat (j := 3) rfl
theorem ixN_n {n j : Nat} (hj : j < n) : ixN n (j : Int) = some j := by
  unfold ixN
  rw [if_pos (by omega), if_pos (by omega)]
  simp
theorem ixN0 {α : Type} (x : α) (r : List α) : ixN (x :: r).length 0 = some 0 := ixN_n (j := 0) (by simp)
theorem ixN1 {α : Type} (x y : α) (r : List α) : ixN (x :: y :: r).length 1 = some 1 := ixN_n (j := 1) (by simp)
theorem ixN2 {α : Type} (x y z : α) (r : List α) : ixN (x :: y :: z :: r).length 2 = some 2 := ixN_n (j := 2) (by simp)
theorem ixN3 {α : Type} (x y z u : α) (r : List α) : ixN (x :: y :: z :: u :: r).length 3 = some 3 := ixN_n (j := 3) (by simp)
theorem atI_of {α : Type} {xs : List α} {i : Int} (h0 : 0 ≤ i) (h1 : i < xs.length) : ∃ v, atI xs i = some v ∧ v ∈ xs := by
  have h : i.toNat < xs.length := by omega
  have e : atI xs ((i.toNat : Nat) : Int) = some xs[i.toNat] := atI_nat (List.getElem?_eq_getElem h)
  rw [Int.toNat_of_nonneg h0] at e
  exact ⟨_, e, List.getElem_mem h⟩

/-! ### more rules -/
def rAddS : R2 := fun x y H Q => ∃ i j, x = .str i ∧ y = .str j ∧ i.length + j.length ≤ sizeLine ∧ Q (.str (i ++ j)) H
def rLtS : R2 := fun x y H Q => ∃ i j, x = .str i ∧ y = .str j ∧ Q (.bl (decide (i.cps.toList < j.cps.toList))) H
def rInS1 : R2 := fun x y H Q => ∃ (c : Nat) (z : Str), x = .str ⟨#[c]⟩ ∧ y = .str z ∧ Q (.bl (decide (c ∈ z.cps.toList))) H
def rNinS1 : R2 := fun x y H Q => ∃ (c : Nat) (z : Str), x = .str ⟨#[c]⟩ ∧ y = .str z ∧ Q (.bl (!decide (c ∈ z.cps.toList))) H
def rIsN : R2 := fun x y H Q => y = .non ∧ Q (.bl (decide (x = .non))) H
def rNotN : R2 := fun x y H Q => y = .non ∧ Q (.bl (!decide (x = .non))) H
/-- a list of ints beside an empty one -/
def rEqE : R2 := fun x y H Q => ∃ (p q : Addr) (ns : List Int), x = .ref p ∧ y = .ref q ∧ H p = some (.lst (ns.map V.int)) ∧ H q = some (.lst []) ∧ Q (.bl ns.isEmpty) H
def rXQ : R2 := fun x y H Q => ∃ p xs i v, x = .ref p ∧ y = .int i ∧ (H p = some (.lst xs) ∨ H p = some (.tup xs)) ∧ atI xs i = some v ∧ Q v H
def rLenQ : List V → Hp → VK → Prop := fun vs H Q => ∃ p xs, vs = [.ref p] ∧ (H p = some (.lst xs) ∨ H p = some (.tup xs)) ∧ Q (.int xs.length) H
def rLenK (K : PySem.W.Frag) : List V → Hp → VK → Prop := fun xs H Q => ∃ p ys, xs = [.ref p] ∧ (SqL K H p ys ∨ SqT K H p ys) ∧ Q (.int ys.length) H
def rLstK (K : PySem.W.Frag) : List V → Hp → VK → Prop := fun xs H Q => ∃ p ys, xs = [.ref p] ∧ (SqL K H p ys ∨ SqT K H p ys) ∧ ∀ l H', Al H l (.lst ys) H' → Q (.ref l) H'
def tApp (to te : TE) : TE := fun σ H Q => to σ H fun x H1 => ∃ l xs', x = .ref l ∧ H1 l = some (.lst xs') ∧ te σ H1 fun y H2 => ∃ xs, H2 l = some (.lst xs) ∧ xs.length < sizeLine ∧ ∀ H', Mu H2 l (.lst (xs ++ [y])) H' → Q .non H'
def tPopAt (to te : TE) : TE := fun σ H Q => to σ H fun x H1 => ∃ l xs', x = .ref l ∧ H1 l = some (.lst xs') ∧ te σ H1 fun y H2 => ∃ x0 xs, y = .int 0 ∧ H2 l = some (.lst (x0 :: xs)) ∧ ∀ H', Mu H2 l (.lst xs) H' → Q x0 H'
def tPopL (to : TE) : TE := fun σ H Q => to σ H fun x H1 => ∃ l xs y, x = .ref l ∧ H1 l = some (.lst xs) ∧ xs[xs.length - 1]? = some y ∧ ∀ H', Mu H1 l (.lst xs.dropLast) H' → Q y H'
def tJoinL (to te : TE) : TE := fun σ H Q => to σ H fun x H1 => ∃ a : Str, x = .str a ∧ te σ H1 fun y H2 => ∃ (p : Addr) (ys : List Str), y = .ref p ∧ H2 p = some (.lst (ys.map V.str)) ∧
  (ys.map (·.length)).sum + ys.length * a.length ≤ 16777216 ∧ Q (.str (Txt.join a ys)) H2
/-- displays -/
def xTup (t : TA) : TE := fun σ H Q => t σ H fun xs H1 => xs.length ≤ sizeLine ∧ ∀ p H2, Al H1 p (.tup xs) H2 → Q (.ref p) H2
def xLst (t : TA) : TE := fun σ H Q => t σ H fun xs H1 => xs.length ≤ sizeLine ∧ ∀ p H2, Al H1 p (.lst xs) H2 → Q (.ref p) H2
def xDic : TE := fun _ H Q => ∀ p H2, Al H p (.dK []) H2 → Q (.ref p) H2
def tIndex (to te : TE) : TE := fun σ H Q => to σ H fun x H1 => ∃ a ys', x = .ref a ∧ H1 a = some (.lst ys') ∧ te σ H1 fun y H2 => ∃ (ys : List V) (j : Nat) (z : V), H2 a = some (.lst ys) ∧ flatV y = true ∧ ys.all flatV = true ∧
  ys[j]? = some z ∧ eqV z y = true ∧ (∀ (m : Nat) (z' : V), m < j → ys[m]? = some z' → eqV z' y = false) ∧ Q (.int (j : Nat)) H2
section
variable {X : Cx} {a b o e : Expr} {ta tb to te : TE} {pos : Pos}
theorem cl_lstK : CallR X (.type "list") (rLstK X.K) := clM call_list_of fun _ _ _ ⟨p, xs, e, h, q⟩ => ⟨p, xs, e, h, fun l hl => q l _ (.of hl)⟩
theorem pe_tupX {es : List Expr} {x1 : Nat} {t : TA} (h : PA X es t) : PE X (.Tuple es x1 pos) (xTup t) := peM (pe_tup (moA h)) fun σ H Q h => ⟨_, h, fun xs H1 ⟨hl, q⟩ => ⟨hl, fun p hp => q p _ (.of hp)⟩⟩
theorem pe_lstX {es : List Expr} {t : TA} (h : PA X es t) : PE X (.List es pos) (xLst t) := peM (pe_lst (moA h)) fun σ H Q h => ⟨_, h, fun xs H1 ⟨hl, q⟩ => ⟨hl, fun p hp => q p _ (.of hp)⟩⟩
theorem pe_dicX : PE X (.Dict [] [] pos) xDic := peM pe_dnewK fun σ H Q h p hp => h p _ (.of hp)
theorem op_addS : OpR X (binaryOp .Add) rAddS := op_add_str
theorem op_ltS : OpR X (compareOp .Lt) rLtS := op_lt_str
theorem op_inS1 : OpR X (compareOp .In) rInS1 := op_in_sign
theorem op_ninS : OpR X (compareOp .NotIn) rNinS1 := op_notIn_sign
theorem op_isN1 : OpR X (compareOp .Is) rIsN := op_isN
theorem op_notN1 : OpR X (compareOp .IsNot) rNotN := op_notN
theorem cl_lenQ : CallR X (.builtin "len") rLenQ := clM call_len_seq fun _ _ _ ⟨p, xs, e, h, q⟩ => ⟨p, xs, e, h.imp SqL.of SqT.of, q⟩
theorem ix_q : IxR X rXQ := ixM (IxR.or ix_list ix_tup) fun _ _ _ _ ⟨p, xs, i, v, e1, e2, h, e, q⟩ => h.elim (fun h => .inl ⟨p, xs, i, v, e1, e2, SqL.of h, e, q⟩) fun h => .inr ⟨p, xs, i, v, e1, e2, SqT.of h, e, q⟩
theorem pe_int_glob {x : Str} {i : Int} (hg : Gl X x) (hm : ∃ t, X.mg x = some (.int i t)) (hd : (x == ("__debug__" : Str)) = false := by decide) : PE X (.Name x pos) (tC (.int i)) := by
  obtain ⟨t, hm⟩ := hm
  exact pe_glob hg hm ⟨t, rfl⟩ hd
theorem pe_str_glob {x i : Str} (hg : Gl X x) (hm : ∃ t, X.mg x = some (.str i t)) (hd : (x == ("__debug__" : Str)) = false := by decide) : PE X (.Name x pos) (tC (.str i)) := by
  obtain ⟨t, hm⟩ := hm
  exact pe_glob hg hm ⟨t, rfl⟩ hd
theorem dp_ints {K : PySem.W.Frag} {H : Hp} : ∀ ns : List Int, DpAll K H (ns.map V.int) (ns.map PyData.int)
  | [] => .nil
  | _ :: r => .cons (.int _) (dp_ints r)
theorem lay_ints : ∀ ns : List Int, PyData.canLayAll0 (ns.map PyData.int) = true ∧ PyData.depthAll (ns.map PyData.int) = 0
  | [] => ⟨rfl, rfl⟩
  | n :: r => by
    obtain ⟨h1, h2⟩ := lay_ints r
    refine ⟨?_, ?_⟩
    · show (PyData.canLay0 (.int n) && PyData.canLayAll0 (r.map PyData.int)) = true
      rw [h1] <;> rfl
    · show max (PyData.depth (.int n)) (PyData.depthAll (r.map PyData.int)) = 0
      rw [h2] <;> rfl
theorem shaped_ints (ns : List Int) : SeqAt.shaped (.list (ns.map PyData.int)) = true := by
  obtain ⟨h1, h2⟩ := lay_ints ns
  unfold SeqAt.shaped
  have e1 : PyData.canLay0 (.list (ns.map PyData.int)) = true := by simp only [PyData.canLay0]; exact h1
  have e2 : PyData.depth (.list (ns.map PyData.int)) = 1 := by simp only [PyData.depth]; rw [h2]
  rw [e1, e2] <;> rfl
theorem op_eqE (hu : X.A.units + 64 < cLine) : OpR X (compareOp .Eq) rEqE := by
  refine opM (op_eqD hu) ?_
  rintro x y H Q ⟨p, q, ns, e1, e2, h1, h2, k⟩
  subst e1 e2
  refine ⟨.list (ns.map PyData.int), .list [], .lst (SqL.of h1) (dp_ints ns), .lst (SqL.of h2) .nil, shaped_ints ns, rfl, ?_⟩
  have e : PyData.eqv (.list (ns.map PyData.int)) (.list []) = ns.isEmpty := by cases ns <;> rfl
  rw [e]; exact k
variable {apos cpos : Pos}
theorem pe_app (ho : PE X o to) (he : PE X e te) (hbase : attributeBase o "append" X.env (eval o X.env) = eval o X.env := by rfl)
    (hfew : ((backTo cpos (starEach (e :: []) X.env)).all (fun x => !x.1) && (backToKw cpos (keywordEach [] X.env)).all (fun x => x.1.isSome)
      && decide ((e :: ([] : List Expr)).length + ([] : List Keyword).length + (if ([] : List Keyword).isEmpty then 0 else 1) < 30)) = true := by rfl)
    (hline : (apos.endLine == cpos.line) = true := by rfl) (hs : starEach (e :: []) X.env = (false, eval e X.env) :: starEach [] X.env := by rfl) (hplain : (backTo cpos (starEach ([] : List Expr) X.env)).any (·.1) = false := by rfl) :
    PE X (.Call (.Attribute o "append" apos) [e] [] cpos) (tApp to te) := by
  refine peM (pe_bm PySem.F.plainAttrs_list PySem.F.slot_list_append PySem.F.type_list_append mt_append (mo ho) (pa_cons (mo he) pa_nil hs) hbase hfew hline hs hplain) ?_
  intro σ H Q h
  refine ⟨_, h, ?_⟩
  rintro x H1 ⟨l, xs', rfl, h1, h⟩
  refine ⟨Or.inl ⟨rfl, _, SqL.of h1⟩, _, h, ?_⟩
  rintro y H2 ⟨xs, h2, hz, q⟩
  exact ⟨l, xs, y, rfl, rfl, h2, hz, q _ (.of h2 fun _ z => by cases z)⟩
theorem pe_popAt (ho : PE X o to) (he : PE X e te) (hbase : attributeBase o "pop" X.env (eval o X.env) = eval o X.env := by rfl)
    (hfew : ((backTo cpos (starEach (e :: []) X.env)).all (fun x => !x.1) && (backToKw cpos (keywordEach [] X.env)).all (fun x => x.1.isSome)
      && decide ((e :: ([] : List Expr)).length + ([] : List Keyword).length + (if ([] : List Keyword).isEmpty then 0 else 1) < 30)) = true := by rfl)
    (hline : (apos.endLine == cpos.line) = true := by rfl) (hs : starEach (e :: []) X.env = (false, eval e X.env) :: starEach [] X.env := by rfl) (hplain : (backTo cpos (starEach ([] : List Expr) X.env)).any (·.1) = false := by rfl) :
    PE X (.Call (.Attribute o "pop" apos) [e] [] cpos) (tPopAt to te) := by
  refine peM (pe_bm PySem.F.plainAttrs_list PySem.F.slot_list_pop PySem.F.type_list_pop mt_popAt (mo ho) (pa_cons (mo he) pa_nil hs) hbase hfew hline hs hplain) ?_
  intro σ H Q h
  refine ⟨_, h, ?_⟩
  rintro x H1 ⟨l, xs', rfl, h1, h⟩
  refine ⟨Or.inl ⟨rfl, _, SqL.of h1⟩, _, h, ?_⟩
  rintro y H2 ⟨x0, xs, rfl, h2, q⟩
  exact ⟨l, x0 :: xs, 0, 0, x0, rfl, rfl, h2, by decide, by decide, seqIndex_of (by decide) (by simp), rfl, q _ (.of h2 fun _ z => by cases z)⟩
theorem pe_index (ho : PE X o to) (he : PE X e te) (hbase : attributeBase o "index" X.env (eval o X.env) = eval o X.env := by rfl)
    (hfew : ((backTo cpos (starEach (e :: []) X.env)).all (fun x => !x.1) && (backToKw cpos (keywordEach [] X.env)).all (fun x => x.1.isSome)
      && decide ((e :: ([] : List Expr)).length + ([] : List Keyword).length + (if ([] : List Keyword).isEmpty then 0 else 1) < 30)) = true := by rfl)
    (hline : (apos.endLine == cpos.line) = true := by rfl) (hs : starEach (e :: []) X.env = (false, eval e X.env) :: starEach [] X.env := by rfl) (hplain : (backTo cpos (starEach ([] : List Expr) X.env)).any (·.1) = false := by rfl) :
    PE X (.Call (.Attribute o "index" apos) [e] [] cpos) (tIndex to te) := by
  refine peM (pe_bm PySem.F.plainAttrs_list PySem.F.slot_list_index PySem.F.type_list_index mt_index (mo ho) (pa_cons (mo he) pa_nil hs) hbase hfew hline hs hplain) ?_
  intro σ H Q h
  refine ⟨_, h, ?_⟩
  rintro x H1 ⟨a, ys', rfl, h1, h⟩
  refine ⟨Or.inl ⟨rfl, _, SqL.of h1⟩, _, h, ?_⟩
  rintro y H2 ⟨ys, j, z, h2, f1, f2, hj, hz, hno, q⟩
  exact ⟨a, ys, y, j, z, rfl, rfl, SqL.of h2, f1, f2, hj, hz, hno, q⟩
theorem pe_popL (ho : PE X o to) (hbase : attributeBase o "pop" X.env (eval o X.env) = eval o X.env := by rfl) (hline : (apos.endLine == cpos.line) = true := by rfl) : PE X (.Call (.Attribute o "pop" apos) [] [] cpos) (tPopL to) := by
  refine peM (pe_bm0 PySem.F.plainAttrs_list PySem.F.slot_list_pop PySem.F.type_list_pop mt_pop (mo ho) hbase hline) ?_
  intro σ H Q h
  refine ⟨_, h, ?_⟩
  rintro x H1 ⟨l, xs, y, rfl, h1, hy, q⟩
  exact ⟨Or.inl ⟨rfl, _, SqL.of h1⟩, l, xs, y, rfl, rfl, h1, hy, q _ (.of h1 fun _ z => by cases z)⟩
theorem pe_joinL (ho : PE X o to) (he : PE X e te) (hs : starEach [e] X.env = [(false, eval e X.env)] := by rfl) (hbase : attributeBase o "join" X.env (eval o X.env) = eval o X.env := by rfl) (hline : (apos.endLine == cpos.line) = true := by rfl) :
    PE X (.Call (.Attribute o "join" apos) [e] [] cpos) (tJoinL to te) := by
  refine peM (pe_join (mo ho) (mo he) hs hbase hline) ?_
  intro σ H Q h
  refine ⟨_, h, ?_⟩
  rintro x H1 ⟨a, rfl, h⟩
  refine ⟨⟨a, rfl⟩, _, h, ?_⟩
  rintro y H2 ⟨p, ys, rfl, h2, hz, q⟩
  exact ⟨a, p, ys, rfl, rfl, .inl (SqL.of h2), hz, q⟩
end
end Hn

namespace Hn
open PySem PySem.Spec PyProof.Rows L2
/-! ### frames: what stands outside S stands on; tuples stand on -/
structure Fr (S : List Addr) (H H' : Hp) : Prop where
  keep : ∀ b o, H b = some o → b ∉ S → H' b = some o
  tups : ∀ b xs, H b = some (.tup xs) → H' b = some (.tup xs)
section
variable {S S' : List Addr} {H H1 H2 : Hp} {p : Addr} {o : HO}
theorem Fr.refl (S : List Addr) (H : Hp) : Fr S H H := ⟨fun _ _ h _ => h, fun _ _ h => h⟩
theorem Fr.trans (a : Fr S H H1) (b : Fr S H1 H2) : Fr S H H2 := ⟨fun c o h hc => b.keep c o (a.keep c o h hc) hc, fun c xs h => b.tups c xs (a.tups c xs h)⟩
theorem Fr.mono (a : Fr S H H1) (h : ∀ b ∈ S, b ∈ S') : Fr S' H H1 := ⟨fun c o e hc => a.keep c o e fun z => hc (h c z), a.tups⟩
theorem Fr.sub0 (a : Fr [] H H1) : Fr S H H1 := a.mono (by simp)
theorem Fr.new (h : H p = none) : Fr S H (upd H p o) := ⟨fun b u e _ => by rw [upd_ne (ne_of_none e h)]; exact e, fun b xs e => by rw [upd_ne (ne_of_none e h)]; exact e⟩
theorem Fr.mut {u : HO} (h : H p = some u) (hp : p ∈ S) (hu : ∀ xs, u ≠ .tup xs) : Fr S H (upd H p o) := by
  refine ⟨fun b z e hb => ?_, fun b xs e => ?_⟩
  · rw [upd_ne fun e' => hb (by rw [e']; exact hp)]; exact e
  · rw [upd_ne fun e' => ?_]; exact e
    rw [e', h] at e
    exact hu xs (Option.some.inj e)
theorem Al.fr {H' : Hp} (a : Al H p o H') : Fr S H H' := ⟨fun _ _ e _ => a.k e, fun _ _ e => a.k e⟩
theorem Mu.fr {H' : Hp} (a : Mu H p o H') (hp : p ∈ S) : Fr S H H' :=
  ⟨fun _ _ e hb => a.k e fun z => hb (by rw [z]; exact hp), fun b xs e => a.k e fun z => a.nt xs (by rw [← z]; exact e)⟩
theorem Fr.al {H' : Hp} (f : Fr S H H1) (a : Al H1 p o H') : Fr S H H' := f.trans a.fr
theorem Fr.mu {H' : Hp} (f : Fr S H H1) (a : Mu H1 p o H') (hp : p ∈ S) : Fr S H H' := f.trans (a.fr hp)
theorem Fr.free (a : Fr S H H1) (h : H1 p = none) (hp : p ∉ S) : H p = none := by
  cases e : H p with
  | none => rfl
  | some u => rw [a.keep p u e hp] at h; cases h
/-- an address that H does not know may leave S -/
theorem Fr.drop (a : Fr (p :: S) H H1) (h : H p = none) : Fr S H H1 := ⟨fun b u e hb => a.keep b u e (by
  intro z
  rcases List.mem_cons.mp z with z | z
  · rw [z, h] at e; cases e
  · exact hb z), a.tups⟩
theorem Fr.l {xs : List V} {a : Addr} (f : Fr S H H1) (h : H a = some (.lst xs)) (ha : a ∉ S) : H1 a = some (.lst xs) := f.keep a _ h ha
end

/-! ### data: values of any depth -/
mutual
inductive Rp (H : Hp) : V → PyData → Prop
  | non : Rp H .non .none
  | bl (b : Bool) : Rp H (.bl b) (.bool b)
  | int (i : Int) : Rp H (.int i) (.int i)
  | str (x : Str) : Rp H (.str x) (.str x)
  | lst {a : Addr} {xs : List V} {ds : List PyData} : H a = some (.lst xs) → RpAll H xs ds → Rp H (.ref a) (.list ds)
  | tup {a : Addr} {xs : List V} {ds : List PyData} : H a = some (.tup xs) → RpAll H xs ds → Rp H (.ref a) (.tuple ds)
inductive RpAll (H : Hp) : List V → List PyData → Prop
  | nil : RpAll H [] []
  | cons {v : V} {vs : List V} {d : PyData} {ds : List PyData} : Rp H v d → RpAll H vs ds → RpAll H (v :: vs) (d :: ds)
end
theorem RpAll.length {H : Hp} : ∀ {vs : List V} {ds : List PyData}, RpAll H vs ds → vs.length = ds.length
  | _, _, .nil => rfl
  | _, _, .cons _ r => congrArg Nat.succ r.length
theorem RpAll.get {H : Hp} : ∀ {vs : List V} {ds : List PyData} {i : Nat} {d : PyData}, RpAll H vs ds → ds[i]? = some d → ∃ v, vs[i]? = some v ∧ Rp H v d
  | _, _, _, _, .nil, e => by simp at e
  | _, _, 0, _, .cons h _, e => by
    have e' := Option.some.inj e
    subst e'
    exact ⟨_, rfl, h⟩
  | _, _, i + 1, d, .cons _ r, e => r.get (i := i) (d := d) e

/-! ### the box of the law: a list of ints and a number -/
def BoxAt (H : Hp) (b l : Addr) : Prop := b ≠ l ∧ ∃ (ns : List Int) (s : Int), H b = some (.lst [.ref l, .int s]) ∧ H l = some (.lst (ns.map V.int)) ∧ 0 ≤ s ∧ s < 2147483647
theorem BoxAt.keep {H H1 : Hp} {b l : Addr} (B : BoxAt H b l) (f : Fr [] H H1) : BoxAt H1 b l := by
  obtain ⟨ne, ns, s, h1, h2, h3⟩ := B
  exact ⟨ne, ns, s, f.keep _ _ h1 (by simp), f.keep _ _ h2 (by simp), h3⟩

/-! ### loops and comprehensions -/
theorem st_seq {t u : TS} {D : Ends} {σ : L2.St} {H : Hp} (h : t { D with nx := u D } σ H) : tSeq t u D σ H := h
section
variable {ta : TA} {te tl : TE} {g : TG} {tt : TT} {tb : TS} {vs : List Nat} {j : Nat} {σ : L2.St} {H : Hp} {Q : VK} {D : Ends} {K : PySem.W.Frag}
/-- a turn of a comprehension -/
def LcTurn (g : TG) (tt : TT) (te : TE) (vs : List Nat) (σ : L2.St) (L : Addr) (Nx : Hp → Prop) (x : V) (H' : Hp) : Prop := g x (wipe σ vs) H' fun σ2 H2 => wipe σ2 vs = wipe σ vs ∧ tt σ2 H2 fun b H3 =>
  if b = true then te σ2 H3 fun y H4 => ∃ acc, H4 L = some (.lst acc) ∧ acc.length < sizeLine ∧ Nx (upd H4 L (.lst (acc ++ [y]))) else Nx H3
theorem lcR {n : Int} (hv : ∀ R : List V → Hp → Prop, R [.int n] H → ta σ H R) (b0 : 0 ≤ n) (b1 : n < 4611686018427387904)
    (h : ∀ L, H L = none → ∃ Pv : Nat → Hp → Prop, Pv 0 (upd H L (.lst [])) ∧ (∀ (i : Nat) Hc, (i : Int) < n → Pv i Hc → LcTurn g tt te vs σ L (Pv (i + 1)) (.int (i : Int)) Hc) ∧ ∀ Hc, Pv n.toNat Hc → Q (.ref L) Hc) :
    tLc (iRng1 ta) g tt te vs σ H Q := by
  refine hv _ ⟨n, rfl, by omega, by omega, fun L hL => ?_⟩
  obtain ⟨Pv, h0, hs, hd⟩ := h L hL
  refine lc_it walk_range Pv h0 (fun _ _ _ _ => trivial) (fun i x H1 H2 hi p y => ?_) hd
  obtain ⟨e1, e2⟩ := y
  have e2' : x = .int (0 + (i : Int)) := e2
  rw [Int.zero_add] at e2'
  subst e1 e2'
  exact hs i _ (by omega) p
theorem lcS {z : Str} (hv : ∀ R : VK, R (.str z) H → te σ H R) {te' : TE}
    (h : ∀ L, H L = none → ∃ Pv : Nat → Hp → Prop, Pv 0 (upd H L (.lst [])) ∧ (∀ (i : Nat) c Hc, z.cps.toList[i]? = some c → Pv i Hc → LcTurn g tt te' vs σ L (Pv (i + 1)) (.str ⟨#[c]⟩) Hc) ∧ ∀ Hc, Pv z.cps.toList.length Hc → Q (.ref L) Hc) :
    tLc (iStr te) g tt te' vs σ H Q := by
  refine hv _ ⟨z, rfl, fun L hL => ?_⟩
  obtain ⟨Pv, h0, hs, hd⟩ := h L hL
  refine lc_it walk_str Pv h0 (fun _ _ _ _ => trivial) (fun i x H1 H2 hi p y => ?_) (by simpa using hd)
  obtain ⟨e1, c, e2, e3⟩ := y
  subst e1 e3
  exact hs i c _ (by simpa using e2) p
theorem forR {n : Int} (hv : ∀ R : List V → Hp → Prop, R [.int n] H → ta σ H R) (b0 : 0 ≤ n) (b1 : n < 4611686018427387904) (Pv : Nat → L2.St → Hp → Prop) (h0 : Pv 0 σ H)
    (hs : ∀ (i : Nat) σ' H', (i : Int) < n → Pv i σ' H' → tb { D with nx := Pv (i + 1), ct := Pv (i + 1), bk := D.nx } (σ'.set j (some (.int (i : Int)))) H') (hd : ∀ σ' H', Pv n.toNat σ' H' → D.nx σ' H') :
    tFor (iRng1 ta) (gName j) tb D σ H := by
  refine hv _ ⟨n, rfl, by omega, by omega, for_it walk_range Pv h0 (fun _ _ _ _ _ => trivial) (fun i x σ1 H1 H2 hi p y => ?_) hd⟩
  obtain ⟨e1, e2⟩ := y
  have e2' : x = .int (0 + (i : Int)) := e2
  rw [Int.zero_add] at e2'
  subst e1 e2'
  exact hs i σ1 _ (by omega) p
theorem forT {a : Addr} {xs : List V} (hv : ∀ R : VK, R (.ref a) H → tl σ H R) (hx : H a = some (.tup xs)) (Pv : Nat → L2.St → Hp → Prop) (h0 : Pv 0 σ H) (hl : ∀ i σ' H', Pv i σ' H' → H' a = some (.tup xs))
    (hs : ∀ (i : Nat) x σ' H', xs[i]? = some x → Pv i σ' H' → tb { D with nx := Pv (i + 1), ct := Pv (i + 1), bk := D.nx } (σ'.set j (some x)) H') (hd : ∀ σ' H', Pv xs.length σ' H' → D.nx σ' H') :
    tFor (iTup K tl) (gName j) tb D σ H := by
  refine hv _ ⟨a, rfl, ⟨xs, SqT.of hx⟩, for_it walk_tup Pv h0 (fun i σ' H' _ p => SqT.of (hl i σ' H' p)) (fun i x σ1 H1 H2 hi p y => ?_) hd⟩
  obtain ⟨e1, e2⟩ := y
  subst e1
  exact hs i x σ1 _ e2 p
theorem forS {z : Str} (hv : ∀ R : VK, R (.str z) H → te σ H R) (Pv : Nat → L2.St → Hp → Prop) (h0 : Pv 0 σ H)
    (hs : ∀ (i : Nat) c σ' H', z.cps.toList[i]? = some c → Pv i σ' H' → tb { D with nx := Pv (i + 1), ct := Pv (i + 1), bk := D.nx } (σ'.set j (some (.str ⟨#[c]⟩))) H') (hd : ∀ σ' H', Pv z.cps.toList.length σ' H' → D.nx σ' H') :
    tFor (iStr te) (gName j) tb D σ H := by
  refine hv _ ⟨z, rfl, for_it walk_str Pv h0 (fun _ _ _ _ _ => trivial) (fun i x σ1 H1 H2 hi p y => ?_) (by simpa using hd)⟩
  obtain ⟨e1, c, e2, e3⟩ := y
  subst e1 e3
  exact hs i c σ1 _ (by simpa using e2) p
end
/-- a new list that a frame does not see may change -/
theorem Fr.muN {S : List Addr} {H H1 H2 : Hp} {p : Addr} {o : HO} (f : Fr S H H1) (a : Mu H1 p o H2) (h : H p = none) : Fr S H H2 :=
  Fr.drop ((f.mono fun _ z => List.mem_cons_of_mem _ z).mu a (List.mem_cons_self ..)) h

/-! ### values of programs -/
/-- a number or a text -/
inductive Vl where
  | n (i : Int)
  | t (z : Str)
  deriving DecidableEq
def Vl.v : Vl → V
  | .n i => .int i
  | .t z => .str z
def Txt12 (z : Str) : Prop := z.cps.toList.length ≤ 12 ∧ ∀ c ∈ z.cps.toList, 97 ≤ c ∧ c < 123
def Vl.ok : Vl → Prop
  | .n i => 0 ≤ i ∧ i < 10007
  | .t z => Txt12 z
theorem Vl.v_inj {x y : Vl} : (x.v = y.v) = (x = y) := by
  refine propext ⟨fun e => ?_, fun e => by rw [e]⟩
  cases x <;> cases y <;> simp_all [Vl.v]
/-- the four signs -/
inductive Sg where
  | add | sub | less | same
  deriving DecidableEq
def Sg.ix : Sg → Nat
  | .add => 3
  | .sub => 4
  | .less => 5
  | .same => 6
def Sg.s (s : Sg) : Str := wd s.ix
def Vl.kd : Vl → Str
  | .n _ => wd 23
  | .t _ => wd 24
def Vl.so : Vl → Bool
  | .n i => !decide (i = 0)
  | .t z => !decide (z = ("" : Str))
def cut12 (a b : Str) : Str := cutS (a ++ b) none (some 12)
def subT (a b : Str) : Str := ⟨(a.cps.toList.filter fun c => !decide (c ∈ b.cps.toList)).toArray⟩
def b2n (b : Bool) : Int := if b then 1 else 0
/-- what a sign makes -/
def wk : Sg → Vl → Vl → Option Vl
  | .same, x, y => some (.n (b2n (decide (x = y))))
  | .add, .n i, .n j => some (.n ((i + j) % 10007))
  | .sub, .n i, .n j => some (.n ((i - j) % 10007))
  | .less, .n i, .n j => some (.n (b2n (decide (i < j))))
  | .add, .t a, .t b => some (.t (cut12 a b))
  | .sub, .t a, .t b => some (.t (subT a b))
  | .less, .t a, .t b => some (.n (b2n (decide (a.cps.toList < b.cps.toList))))
  | _, _, _ => none
def ov : Option Vl → V
  | none => .non
  | some x => x.v
/-! ### promises -/
def sp_L_take : Sp := fun vs H Q _ => ∃ (b l : Addr) (m : Int), vs = [.ref b, .int m] ∧ BoxAt H b l ∧ 0 < m ∧ m < 1073741824 ∧ ∀ r H', 0 ≤ r → r < m → BoxAt H' b l → Fr [b, l] H H' → Q (.int r) H'
theorem len_L_take (vs : List V) (H : Hp) (Q : VK) (E : XK) (h : sp_L_take vs H Q E) : vs.length = 2 := by
  obtain ⟨_, _, _, rfl, _⟩ := h
  rfl
def sp_L_script (K : PySem.W.Frag) : Sp := fun vs H Q _ => ∃ (a : Addr) (ns : List Int), vs = [.ref a] ∧ SqL K H a (ns.map V.int) ∧ ns.length ≤ 63 ∧ ∀ b l H', BoxAt H' b l → Fr [] H H' → Q (.ref b) H'
theorem len_L_script {K : PySem.W.Frag} (vs : List V) (H : Hp) (Q : VK) (E : XK) (h : sp_L_script K vs H Q E) : vs.length = 1 := by
  obtain ⟨_, _, rfl, _⟩ := h
  rfl
def sp_L_text : Sp := fun vs H Q _ => ∃ (b l : Addr), vs = [.ref b] ∧ BoxAt H b l ∧ ∀ z H', Txt12 z → BoxAt H' b l → Fr [b, l] H H' → Q (.str z) H'
theorem len_L_text (vs : List V) (H : Hp) (Q : VK) (E : XK) (h : sp_L_text vs H Q E) : vs.length = 1 := by
  obtain ⟨_, _, rfl, _⟩ := h
  rfl
def sp_L_value : Sp := fun vs H Q _ => ∃ (b l : Addr), vs = [.ref b] ∧ BoxAt H b l ∧ ∀ (x : Vl) H', x.ok → BoxAt H' b l → Fr [b, l] H H' → Q x.v H'
theorem len_L_value (vs : List V) (H : Hp) (Q : VK) (E : XK) (h : sp_L_value vs H Q E) : vs.length = 1 := by
  obtain ⟨_, _, rfl, _⟩ := h
  rfl
def sp_kind_of : Sp := fun vs H Q _ => ∃ x : Vl, vs = [x.v] ∧ Q (.str x.kd) H
theorem len_kind_of (vs : List V) (H : Hp) (Q : VK) (E : XK) (h : sp_kind_of vs H Q E) : vs.length = 1 := by
  obtain ⟨_, rfl, _⟩ := h
  rfl
def sp_is_so : Sp := fun vs H Q _ => ∃ x : Vl, vs = [x.v] ∧ ∀ H', Fr [] H H' → Q (.bl x.so) H'
theorem len_is_so (vs : List V) (H : Hp) (Q : VK) (E : XK) (h : sp_is_so vs H Q E) : vs.length = 1 := by
  obtain ⟨_, rfl, _⟩ := h
  rfl
abbrev sp_L_is_so : Sp := sp_is_so
theorem len_L_is_so (vs : List V) (H : Hp) (Q : VK) (E : XK) (h : sp_L_is_so vs H Q E) : vs.length = 1 := len_is_so vs H Q E h
def sp_worked : Sp := fun vs H Q _ => ∃ (s : Sg) (x y : Vl), vs = [.str s.s, x.v, y.v] ∧ x.ok ∧ y.ok ∧ ∀ H', Fr [] H H' → Q (ov (wk s x y)) H'
theorem len_worked (vs : List V) (H : Hp) (Q : VK) (E : XK) (h : sp_worked vs H Q E) : vs.length = 3 := by
  obtain ⟨_, _, _, rfl, _⟩ := h
  rfl
abbrev sp_L_worked : Sp := sp_worked
theorem len_L_worked (vs : List V) (H : Hp) (Q : VK) (E : XK) (h : sp_L_worked vs H Q E) : vs.length = 3 := len_worked vs H Q E h
def sp_of_numbers : Sp := fun vs H Q _ => ∃ (s : Sg) (i j : Int), vs = [.str s.s, .int i, .int j] ∧ s ≠ .same ∧ Q (ov (wk s (.n i) (.n j))) H
theorem len_of_numbers (vs : List V) (H : Hp) (Q : VK) (E : XK) (h : sp_of_numbers vs H Q E) : vs.length = 3 := by
  obtain ⟨_, _, _, rfl, _⟩ := h
  rfl
def sp_of_texts : Sp := fun vs H Q _ => ∃ (s : Sg) (a b : Str), vs = [.str s.s, .str a, .str b] ∧ s ≠ .same ∧ Txt12 a ∧ Txt12 b ∧ ∀ H', Fr [] H H' → Q (ov (wk s (.t a) (.t b))) H'
theorem len_of_texts (vs : List V) (H : Hp) (Q : VK) (E : XK) (h : sp_of_texts vs H Q E) : vs.length = 3 := by
  obtain ⟨_, _, _, rfl, _⟩ := h
  rfl
abbrev sp_L_of_texts : Sp := sp_of_texts
theorem len_L_of_texts (vs : List V) (H : Hp) (Q : VK) (E : XK) (h : sp_L_of_texts vs H Q E) : vs.length = 3 := len_of_texts vs H Q E h
/-- both tell the same data -/
def sp_L_alike (n : Nat) : Sp := fun vs H Q _ => ∃ (x y : V) (d : PyData), vs = [x, y] ∧ Rp H x d ∧ Rp H y d ∧ d.depth < n ∧ Q (.bl true) H
theorem len_L_alike {n : Nat} (vs : List V) (H : Hp) (Q : VK) (E : XK) (h : sp_L_alike n vs H Q E) : vs.length = 2 := by
  obtain ⟨_, _, _, rfl, _⟩ := h
  rfl
theorem no_L_alike (vs : List V) (H : Hp) (Q : VK) (E : XK) : ¬ sp_L_alike 0 vs H Q E := fun ⟨_, _, _, _, _, _, h, _⟩ => absurd h (Nat.not_lt_zero _)
end Hn

namespace Hn
open PySem PySem.Spec PyProof.Rows L2
/-! ### data that never changes -/
mutual
def Tp (H : Hp) : PyData → V → Prop
  | .none, v => v = .non
  | .bool b, v => v = .bl b
  | .int i, v => v = .int i
  | .str x, v => v = .str x
  | .tuple ds, v => ∃ a xs, v = .ref a ∧ H a = some (.tup xs) ∧ TpL H ds xs
  | .list _, _ => False
  | .dict _, _ => False
def TpL (H : Hp) : List PyData → List V → Prop
  | [], xs => xs = []
  | d :: ds, xs => ∃ v r, xs = v :: r ∧ Tp H d v ∧ TpL H ds r
end
def Tups (H H' : Hp) : Prop := ∀ b xs, H b = some (.tup xs) → H' b = some (.tup xs)
mutual
theorem Tp.tups {H H' : Hp} (t : Tups H H') : ∀ {d : PyData} {v : V}, Tp H d v → Tp H' d v
  | .none, _, h => by simpa only [Tp] using h
  | .bool _, _, h => by simpa only [Tp] using h
  | .int _, _, h => by simpa only [Tp] using h
  | .str _, _, h => by simpa only [Tp] using h
  | .tuple ds, v, h => by
    simp only [Tp] at h ⊢
    obtain ⟨a, xs, e, ha, hx⟩ := h
    exact ⟨a, xs, e, t _ _ ha, TpL.tups t hx⟩
  | .list _, _, h => by simp only [Tp] at h
  | .dict _, _, h => by simp only [Tp] at h
theorem TpL.tups {H H' : Hp} (t : Tups H H') : ∀ {ds : List PyData} {xs : List V}, TpL H ds xs → TpL H' ds xs
  | [], _, h => by simpa only [TpL] using h
  | d :: ds, xs, h => by
    simp only [TpL] at h ⊢
    obtain ⟨v, r, e, h1, h2⟩ := h
    exact ⟨v, r, e, Tp.tups t h1, TpL.tups t h2⟩
end
section
variable {H H' : Hp} {S : List Addr} {d : PyData} {v : V} {ds es : List PyData} {xs ys : List V} {p : Addr} {o : HO}
theorem Fr.tu (f : Fr S H H') : Tups H H' := f.tups
theorem Al.tu (a : Al H p o H') : Tups H H' := fun _ _ h => a.k h
theorem Mu.tu (a : Mu H p o H') : Tups H H' := (a.fr (S := [p]) (by simp)).tups
theorem Tups.refl (H : Hp) : Tups H H := fun _ _ h => h
theorem Tups.trans {H1 : Hp} (a : Tups H H1) (b : Tups H1 H') : Tups H H' := fun _ _ h => b _ _ (a _ _ h)
theorem tpl_nil : TpL H [] xs = (xs = []) := by simp only [TpL]
theorem tpl_cons : TpL H (d :: ds) xs = ∃ v r, xs = v :: r ∧ Tp H d v ∧ TpL H ds r := by simp only [TpL]
theorem tp_tup : Tp H (.tuple ds) v = ∃ a xs, v = .ref a ∧ H a = some (.tup xs) ∧ TpL H ds xs := by simp only [Tp]
theorem tp_int {i : Int} : Tp H (.int i) v = (v = .int i) := by simp only [Tp]
theorem tp_str {i : Str} : Tp H (.str i) v = (v = .str i) := by simp only [Tp]
theorem tp_non : Tp H .none v = (v = .non) := by simp only [Tp]
theorem tp_bl {i : Bool} : Tp H (.bool i) v = (v = .bl i) := by simp only [Tp]
theorem Tp.int (i : Int) : Tp H (.int i) (.int i) := by simp only [Tp]
theorem Tp.str (i : Str) : Tp H (.str i) (.str i) := by simp only [Tp]
theorem Tp.tup {a : Addr} (h : H a = some (.tup xs)) (hx : TpL H ds xs) : Tp H (.tuple ds) (.ref a) := by rw [tp_tup]; exact ⟨a, xs, rfl, h, hx⟩
theorem TpL.nil : TpL H [] [] := by simp only [TpL]
theorem TpL.cons (h : Tp H d v) (hr : TpL H ds xs) : TpL H (d :: ds) (v :: xs) := by rw [tpl_cons]; exact ⟨v, xs, rfl, h, hr⟩
theorem TpL.length : ∀ {ds : List PyData} {xs : List V}, TpL H ds xs → xs.length = ds.length
  | [], _, h => by rw [tpl_nil] at h; rw [h]; rfl
  | _ :: _, _, h => by
    rw [tpl_cons] at h
    obtain ⟨v, r, rfl, _, h⟩ := h
    rw [List.length_cons, List.length_cons, h.length]
theorem TpL.append : ∀ {ds : List PyData} {xs : List V}, TpL H ds xs → TpL H es ys → TpL H (ds ++ es) (xs ++ ys)
  | [], _, h, h' => by rw [tpl_nil] at h; rw [h]; exact h'
  | _ :: _, _, h, h' => by
    rw [tpl_cons] at h
    obtain ⟨v, r, rfl, h1, h⟩ := h
    exact .cons h1 (h.append h')
theorem TpL.get : ∀ {ds : List PyData} {xs : List V} {i : Nat} {d : PyData}, TpL H ds xs → ds[i]? = some d → ∃ v, xs[i]? = some v ∧ Tp H d v
  | [], _, _, _, _, e => by simp at e
  | _ :: _, _, 0, _, h, e => by
    rw [tpl_cons] at h
    obtain ⟨v, r, rfl, h1, h⟩ := h
    cases e
    exact ⟨v, rfl, h1⟩
  | _ :: _, _, i + 1, d, h, e => by
    rw [tpl_cons] at h
    obtain ⟨v, r, rfl, h1, h⟩ := h
    exact h.get (i := i) (d := d) e
theorem TpL.get' : ∀ {ds : List PyData} {xs : List V} {i : Nat} {v : V}, TpL H ds xs → xs[i]? = some v → ∃ d, ds[i]? = some d ∧ Tp H d v
  | [], _, _, _, h, e => by rw [tpl_nil] at h; subst h; simp at e
  | _ :: _, _, 0, _, h, e => by
    rw [tpl_cons] at h
    obtain ⟨v, r, rfl, h1, h⟩ := h
    cases e
    exact ⟨_, rfl, h1⟩
  | _ :: _, _, i + 1, d, h, e => by
    rw [tpl_cons] at h
    obtain ⟨v, r, rfl, h1, h⟩ := h
    exact h.get' (i := i) e
theorem TpL.set : ∀ {ds : List PyData} {xs : List V} (i : Nat), TpL H ds xs → Tp H d v → TpL H (ds.set i d) (xs.set i v)
  | [], _, _, h, _ => by rw [tpl_nil] at h; subst h; exact .nil
  | _ :: _, _, 0, h, h' => by
    rw [tpl_cons] at h
    obtain ⟨v, r, rfl, h1, h⟩ := h
    exact .cons h' h
  | _ :: _, _, i + 1, h, h' => by
    rw [tpl_cons] at h
    obtain ⟨v, r, rfl, h1, h⟩ := h
    exact .cons h1 (h.set i h')
theorem TpL.take : ∀ {ds : List PyData} {xs : List V} (i : Nat), TpL H ds xs → TpL H (ds.take i) (xs.take i)
  | [], _, _, h => by rw [tpl_nil] at h; subst h; simp only [List.take_nil]; exact .nil
  | _ :: _, _, 0, h => .nil
  | _ :: _, _, i + 1, h => by
    rw [tpl_cons] at h
    obtain ⟨v, r, rfl, h1, h⟩ := h
    exact .cons h1 (h.take i)
theorem TpL.drop : ∀ {ds : List PyData} {xs : List V} (i : Nat), TpL H ds xs → TpL H (ds.drop i) (xs.drop i)
  | [], _, _, h => by rw [tpl_nil] at h; subst h; simp only [List.drop_nil]; exact .nil
  | _ :: _, _, 0, h => h
  | _ :: _, _, i + 1, h => by
    rw [tpl_cons] at h
    obtain ⟨v, r, rfl, h1, h⟩ := h
    exact h.drop i
theorem TpL.single (h : Tp H d v) : TpL H [d] [v] := .cons h .nil
theorem TpL.snoc (h : TpL H ds xs) (h' : Tp H d v) : TpL H (ds ++ [d]) (xs ++ [v]) := h.append (.single h')
end
mutual
theorem Tp.rp {H : Hp} : ∀ {d : PyData} {v : V}, Tp H d v → Rp H v d
  | .none, _, h => by rw [tp_non] at h; subst h; exact .non
  | .bool _, _, h => by rw [tp_bl] at h; subst h; exact .bl _
  | .int _, _, h => by rw [tp_int] at h; subst h; exact .int _
  | .str _, _, h => by rw [tp_str] at h; subst h; exact .str _
  | .tuple ds, v, h => by
    rw [tp_tup] at h
    obtain ⟨a, xs, rfl, ha, hx⟩ := h
    exact .tup ha (TpL.rp hx)
  | .list _, _, h => by simp only [Tp] at h
  | .dict _, _, h => by simp only [Tp] at h
theorem TpL.rp {H : Hp} : ∀ {ds : List PyData} {xs : List V}, TpL H ds xs → RpAll H xs ds
  | [], _, h => by rw [tpl_nil] at h; subst h; exact .nil
  | d :: ds, xs, h => by
    rw [tpl_cons] at h
    obtain ⟨v, r, rfl, h1, h2⟩ := h
    exact .cons (Tp.rp h1) (TpL.rp h2)
end

/-! ### programs -/
def Nm8 (x : Str) : Prop := ∃ i, i < 8 ∧ x = ⟨#[97 + i]⟩
inductive Ex where
  | num (n : Int) | text (z : Str) | name (x : Str) | op (s : Sg) (a b : Ex)
def Ex.d : Ex → PyData
  | .num n => .tuple [.str (wd 0), .int n]
  | .text z => .tuple [.str (wd 1), .str z]
  | .name x => .tuple [.str (wd 2), .str x]
  | .op s a b => .tuple [.str s.s, a.d, b.d]
def Ex.ok : Ex → Prop
  | .num n => 0 ≤ n ∧ n < 10000
  | .text z => Txt12 z
  | .name x => Nm8 x
  | .op _ a b => a.ok ∧ b.ok
def Ex.dep : Ex → Nat
  | .op _ a b => 1 + max a.dep b.dep
  | _ => 1
inductive Rw where
  | num (n : Int) | text (z : Str) | name (x : Str) | op (s : Sg) | say | set (x : Str) | unless (q : Nat) | go (z : Nat) | top | fin
def Rw.d : Rw → PyData
  | .num n => .tuple [.str (wd 0), .int n]
  | .text z => .tuple [.str (wd 1), .str z]
  | .name x => .tuple [.str (wd 2), .str x]
  | .op s => .tuple [.str s.s]
  | .say => .tuple [.str (wd 7)]
  | .set x => .tuple [.str (wd 8), .str x]
  | .unless q => .tuple [.str (wd 9), .int (q : Nat)]
  | .go z => .tuple [.str (wd 10), .int (z : Nat)]
  | .top => .tuple [.str (wd 11)]
  | .fin => .tuple [.str (wd 12)]
def Ex.code : Ex → List Rw
  | .num n => [.num n]
  | .text z => [.text z]
  | .name x => [.name x]
  | .op s a b => a.code ++ b.code ++ [.op s]
inductive Sm where
  | say (e : Ex) | set (x : Str) (e : Ex) | ite (e : Ex) (s t : List Sm) | whl (e : Ex) (s : List Sm)
mutual
def Sm.d : Sm → PyData
  | .say e => .tuple [.str (wd 7), e.d]
  | .set x e => .tuple [.str (wd 8), .str x, e.d]
  | .ite e s t => .tuple [.str (wd 14), e.d, .tuple [.str (wd 13), .tuple (dL s)], .tuple [.str (wd 13), .tuple (dL t)]]
  | .whl e s => .tuple [.str (wd 15), e.d, .tuple [.str (wd 13), .tuple (dL s)]]
def dL : List Sm → List PyData
  | [] => []
  | a :: r => a.d :: dL r
end
def rowD (l : List Sm) : PyData := .tuple [.str (wd 13), .tuple (dL l)]
mutual
/-- its expressions are at most m deep -/
def Sm.ok (m : Nat) : Sm → Prop
  | .say e => e.ok ∧ e.dep ≤ m
  | .set x e => Nm8 x ∧ e.ok ∧ e.dep ≤ m
  | .ite e s t => (e.ok ∧ e.dep ≤ m) ∧ okL m s ∧ okL m t
  | .whl e s => (e.ok ∧ e.dep ≤ m) ∧ okL m s
def okL (m : Nat) : List Sm → Prop
  | [] => True
  | a :: r => a.ok m ∧ okL m r
end
mutual
/-- how many calls deep a walk goes -/
def Sm.dp : Sm → Nat
  | .say _ => 1
  | .set _ _ => 1
  | .ite _ s t => 1 + max (dpL s) (dpL t)
  | .whl _ s => 1 + dpL s
def dpL : List Sm → Nat
  | [] => 1
  | a :: r => max (1 + a.dp) (dpL r)
end
mutual
/-- how many statements -/
def Sm.cnt : Sm → Nat
  | .say _ => 1
  | .set _ _ => 1
  | .ite _ s t => 1 + cntL s + cntL t
  | .whl _ s => 1 + cntL s
def cntL : List Sm → Nat
  | [] => 0
  | a :: r => a.cnt + cntL r
end
mutual
def Sm.code : Sm → Nat → List Rw
  | .say e, _ => e.code ++ [.say]
  | .set x e, _ => e.code ++ [.set x]
  | .ite e s t, b => e.code ++ [.unless (b + e.code.length + (codeL s (b + e.code.length + 1)).length + 2)] ++ codeL s (b + e.code.length + 1) ++
      [.go (b + e.code.length + (codeL s (b + e.code.length + 1)).length + 2 + (codeL t (b + e.code.length + (codeL s (b + e.code.length + 1)).length + 2)).length)] ++
      codeL t (b + e.code.length + (codeL s (b + e.code.length + 1)).length + 2)
  | .whl e s, b => [.top] ++ e.code ++ [.unless (b + e.code.length + (codeL s (b + e.code.length + 2)).length + 3)] ++ codeL s (b + e.code.length + 2) ++ [.go b]
def codeL : List Sm → Nat → List Rw
  | [], _ => []
  | a :: r, b => a.code b ++ codeL r (b + (a.code b).length)
end
/-- a statement, or a row of them -/
inductive Un where
  | row (l : List Sm) | st (s : Sm)
def Un.d : Un → PyData
  | .row l => rowD l
  | .st s => s.d
def Un.dp : Un → Nat
  | .row l => dpL l
  | .st s => s.dp
def Un.ok (m : Nat) : Un → Prop
  | .row l => okL m l
  | .st s => s.ok m
def Un.cnt : Un → Nat
  | .row l => cntL l
  | .st s => s.cnt
def Un.code : Un → Nat → List Rw
  | .row l, b => codeL l b
  | .st s, b => s.code b
/-! sizes -/
theorem Ex.pos (e : Ex) : 0 < e.code.length := by
  cases e <;> simp only [Ex.code, List.length_append, List.length_cons, List.length_nil] <;> omega
theorem Ex.len2 : ∀ e : Ex, e.code.length + 1 ≤ 2 ^ e.dep
  | .num _ => by simp [Ex.code, Ex.dep]
  | .text _ => by simp [Ex.code, Ex.dep]
  | .name _ => by simp [Ex.code, Ex.dep]
  | .op s a b => by
    have h1 := Ex.len2 a
    have h2 := Ex.len2 b
    have h3 : 2 ^ a.dep ≤ 2 ^ max a.dep b.dep := Nat.pow_le_pow_right (by decide) (Nat.le_max_left ..)
    have h4 : 2 ^ b.dep ≤ 2 ^ max a.dep b.dep := Nat.pow_le_pow_right (by decide) (Nat.le_max_right ..)
    have h5 : 2 ^ (1 + max a.dep b.dep) = 2 * 2 ^ max a.dep b.dep := by rw [Nat.add_comm, Nat.pow_succ]; omega
    simp only [Ex.code, Ex.dep, List.length_append, List.length_cons, List.length_nil]
    omega
theorem Ex.lenM {e : Ex} {m : Nat} (h : e.dep ≤ m) : e.code.length ≤ 2 ^ m := by
  have h1 := e.len2
  have h2 : 2 ^ e.dep ≤ 2 ^ m := Nat.pow_le_pow_right (by decide) h
  omega
mutual
theorem Sm.len_le {m : Nat} : ∀ (s : Sm) (b : Nat), s.ok m → (s.code b).length ≤ (2 ^ m + 3) * s.cnt
  | .say e, b, h => by
    have := Ex.lenM h.2
    simp only [Sm.code, Sm.cnt, List.length_append, List.length_cons, List.length_nil]
    omega
  | .set x e, b, h => by
    have := Ex.lenM h.2.2
    simp only [Sm.code, Sm.cnt, List.length_append, List.length_cons, List.length_nil]
    omega
  | .ite e s t, b, h => by
    have h0 := Ex.lenM h.1.2
    have h1 := len_leL s (b + e.code.length + 1) h.2.1
    have h2 := len_leL t (b + e.code.length + (codeL s (b + e.code.length + 1)).length + 2) h.2.2
    simp only [Sm.code, Sm.cnt, List.length_append, List.length_cons, List.length_nil]
    rw [Nat.mul_add, Nat.mul_add, Nat.mul_one]
    omega
  | .whl e s, b, h => by
    have h0 := Ex.lenM h.1.2
    have h1 := len_leL s (b + e.code.length + 2) h.2
    simp only [Sm.code, Sm.cnt, List.length_append, List.length_cons, List.length_nil]
    rw [Nat.mul_add, Nat.mul_one]
    omega
theorem len_leL {m : Nat} : ∀ (l : List Sm) (b : Nat), okL m l → (codeL l b).length ≤ (2 ^ m + 3) * cntL l
  | [], b, _ => by simp [codeL, cntL]
  | a :: r, b, h => by
    have h1 := Sm.len_le a b h.1
    have h2 := len_leL r (b + (a.code b).length) h.2
    simp only [codeL, cntL, List.length_append]
    rw [Nat.mul_add]
    omega
end
theorem Un.len_le {m : Nat} (o : Un) (b : Nat) (h : o.ok m) : (o.code b).length ≤ (2 ^ m + 3) * o.cnt := by
  cases o with
  | row l => exact len_leL l b h
  | st s => exact s.len_le b h
theorem dL_map : ∀ l : List Sm, dL l = l.map Sm.d
  | [] => by simp [dL]
  | a :: r => by simp [dL, dL_map r]
theorem codeL_append : ∀ (l k : List Sm) (b : Nat), codeL (l ++ k) b = codeL l b ++ codeL k (b + (codeL l b).length)
  | [], k, b => by simp [codeL]
  | a :: r, k, b => by simp [codeL, codeL_append r k, Nat.add_assoc]
theorem okL_mem {m : Nat} : ∀ {l : List Sm} {s : Sm}, okL m l → s ∈ l → s.ok m
  | _ :: _, _, h, .head _ => h.1
  | _ :: _, _, h, .tail _ h' => okL_mem h.2 h'
theorem dpL_mem : ∀ {l : List Sm} {s : Sm}, s ∈ l → s.dp < dpL l
  | a :: r, _, .head _ => by simp only [dpL]; omega
  | a :: r, _, .tail _ h' => by have := dpL_mem h'; simp only [dpL]; omega
theorem cntL_append : ∀ (l k : List Sm), cntL (l ++ k) = cntL l + cntL k
  | [], k => by simp [cntL]
  | a :: r, k => by simp [cntL, cntL_append r k]; omega
theorem cntL_take : ∀ (l : List Sm) (i : Nat), cntL (l.take i) ≤ cntL l
  | [], i => by simp
  | a :: r, 0 => by simp [cntL]
  | a :: r, i + 1 => by have := cntL_take r i; simp only [List.take_succ_cons, cntL]; omega
theorem okL_take {m : Nat} : ∀ (l : List Sm) (i : Nat), okL m l → okL m (l.take i)
  | [], i, _ => by simp [okL]
  | a :: r, 0, _ => by simp [okL]
  | a :: r, i + 1, h => ⟨h.1, okL_take r i h.2⟩
theorem okL_append {m : Nat} : ∀ {l k : List Sm}, okL m l → okL m k → okL m (l ++ k)
  | [], _, _, h => h
  | _ :: _, _, h, h' => ⟨h.1, okL_append h.2 h'⟩
end Hn

/-! classes and dicts in the layer's words -/
namespace Hn
open PySem PySem.Spec PyProof.Rows L2
/-- the classes' addresses -/
structure CA where
  coder : Addr
  state : Addr
  notes : Addr
  maker : Addr
  slots : Addr
  machine : Addr
  words : Addr
  reader : Addr
  hunch : Addr
  unread : Addr
  notop : Addr
section
variable (P : Program) (w : World) (K : PySem.W.Frag) (mg : Str → Option Value) (base : Heap)
/-- the method m of the class at C keeps sp -/
def OkM (k : Nat) (C : Addr) (m : Str) (ps : List Str) (sp : Sp) : Prop := ∃ f fd, FnOk P w K mg base CX0 k f fd ps sp ∧ Meth K C m f ∧ Binds K fd ps []
/-- the class at C is made by an __init__ that keeps sp -/
def OkI (k : Nat) (C : Addr) (ps : List Str) (sp : Sp) : Prop := ∃ f fd, FnOk P w K mg base CX0 k f fd ps sp ∧ Mk K C f ∧ Binds K fd ps []
def MethAt (C : Addr) (m qual : Str) (st : Stmt) : Prop := ∃ f fd, FunD K m qual (defArgs st) (defBody st) (defScope st) [] [] f fd ∧ Meth K C m f
def InitAt (C : Addr) (qual : Str) (st : Stmt) : Prop := ∃ f fd, FunD K "__init__" qual (defArgs st) (defBody st) (defScope st) [] [] f fd ∧ Mk K C f
end
section
variable {P : Program} {w : World} {K : PySem.W.Frag} {mg : Str → Option Value} {base : Heap} {C : Addr}
theorem OkM.mono {j k : Nat} {m : Str} {ps : List Str} {sp : Sp} (F : OkM P w K mg base j C m ps sp) (h : j ≤ k) : OkM P w K mg base k C m ps sp := by
  obtain ⟨f, fd, F, a, b⟩ := F
  exact ⟨f, fd, F.mono h, a, b⟩
theorem OkI.mono {j k : Nat} {ps : List Str} {sp : Sp} (F : OkI P w K mg base j C ps sp) (h : j ≤ k) : OkI P w K mg base k C ps sp := by
  obtain ⟨f, fd, F, a, b⟩ := F
  exact ⟨f, fd, F.mono h, a, b⟩
theorem MethAt.ok {m qual : Str} {st : Stmt} {N ps : List Str} {k : Nat} {sp : Sp} (D : MethAt K C m qual st) (S : FnScope N ps (defScope st))
    (hb : ∀ (kV doc pm : Value) (an : Option Addr) (cdv ct : Value) (us : List Value), us.length = ps.length → bindArgs (PySem.W.fnOf m qual (defArgs st) (defBody st) (defScope st) .none kV doc pm an cdv ct) ⟨us, []⟩ = pure (ps.zip us))
    (len : ∀ vs H Q E, sp vs H Q E → vs.length = ps.length)
    (hbody : ∀ (f : Addr) (cdv : Value) (A : Around) (outer : List Env) (s : Shared) (H : Hp) (vs : List V) (Q : VK) (E : XK), Room k (A.deeper (envOfC qual (defScope st) s.heap.objs.size f cdv)) → sp vs H Q E →
      ∃ t, PSs (cxOf CX0 P w K mg base N qual (defScope st) f cdv A outer s H E).nox (defBody st) t ∧ (HSz H → t { nx := fun _ H' => Q .non H', rt := Q } (start N vs) H)) : OkM P w K mg base (k + 1) C m ps sp := by
  obtain ⟨f, fd, F, hm⟩ := D
  refine ⟨f, fd, F.ok S len fun cdv A outer s H vs Q E hr h => ?_, hm, F.bindsN hb⟩
  obtain ⟨t, h1, h2⟩ := hbody f cdv A outer s H vs Q E hr h
  exact ⟨_, (pssSz h1).nox, h2⟩
theorem MethAt.none {m qual : Str} {st : Stmt} {ps : List Str} {sp : Sp} (D : MethAt K C m qual st)
    (hb : ∀ (kV doc pm : Value) (an : Option Addr) (cdv ct : Value) (us : List Value), us.length = ps.length → bindArgs (PySem.W.fnOf m qual (defArgs st) (defBody st) (defScope st) .none kV doc pm an cdv ct) ⟨us, []⟩ = pure (ps.zip us))
    (no : ∀ vs H Q E, ¬ sp vs H Q E) : OkM P w K mg base 0 C m ps sp := by
  obtain ⟨f, fd, F, hm⟩ := D
  exact ⟨f, fd, ⟨fun vs H Q E h => absurd h (no vs H Q E), fun A outer s H args us vs Q E _ _ _ _ h => absurd h (no vs H Q E)⟩, hm, F.bindsN hb⟩
theorem InitAt.ok {qual : Str} {st : Stmt} {N ps : List Str} {k : Nat} {sp : Sp} (D : InitAt K C qual st) (S : FnScope N ps (defScope st))
    (hb : ∀ (kV doc pm : Value) (an : Option Addr) (cdv ct : Value) (us : List Value), us.length = ps.length → bindArgs (PySem.W.fnOf "__init__" qual (defArgs st) (defBody st) (defScope st) .none kV doc pm an cdv ct) ⟨us, []⟩ = pure (ps.zip us))
    (len : ∀ vs H Q E, sp vs H Q E → vs.length = ps.length)
    (hbody : ∀ (f : Addr) (cdv : Value) (A : Around) (outer : List Env) (s : Shared) (H : Hp) (vs : List V) (Q : VK) (E : XK), Room k (A.deeper (envOfC qual (defScope st) s.heap.objs.size f cdv)) → sp vs H Q E →
      ∃ t, PSs (cxOf CX0 P w K mg base N qual (defScope st) f cdv A outer s H E).nox (defBody st) t ∧ (HSz H → t { nx := fun _ H' => Q .non H', rt := Q } (start N vs) H)) : OkI P w K mg base (k + 1) C ps sp := by
  obtain ⟨f, fd, F, hm⟩ := D
  refine ⟨f, fd, F.ok S len fun cdv A outer s H vs Q E hr h => ?_, hm, F.bindsN hb⟩
  obtain ⟨t, h1, h2⟩ := hbody f cdv A outer s H vs Q E hr h
  exact ⟨_, (pssSz h1).nox, h2⟩
end

/-! ### fields, methods, new objects -/
def xFld (C : Addr) (ta : TE) (f : Str) : TE := fun σ H Q => ta σ H fun x H1 => ∃ a dx fs v, x = .ref a ∧ H1 a = some (.ins C dx fs) ∧ fs.lookup f = some v ∧ Q v H1
def xSet (C : Addr) (ta tv : TE) (f : Str) : TS := fun D σ H => tv σ H fun y H1 => ta σ H1 fun x H2 => ∃ a dx fs, x = .ref a ∧ H2 a = some (.ins C dx fs) ∧ fs.length < 1000 ∧ ∀ H', Mu H2 a (.ins C dx (putF f y fs)) H' → D.nx σ H'
def xMeth (C : Addr) (m : Str) (sp : Sp) (ta : TE) (t : TA) : TE := fun σ H Q => ta σ H fun x H1 => ∃ a dx fs, x = .ref a ∧ H1 a = some (.ins C dx fs) ∧ fs.lookup m = none ∧ t σ H1 fun vs H2 => sp (x :: vs) H2 Q E0
def xMake (C : Addr) (sp : Sp) (t : TA) : TE := fun σ H Q => t σ H fun vs H1 => ∀ x dx H2, Al H1 x (.ins C dx []) H2 → sp (.ref x :: vs) H2 (fun v H3 => v = .non ∧ Q (.ref x) H3) E0
section
variable {X : Cx} {C : Addr} {o e value : Expr} {es : List Expr} {f m x : Str} {pos pos' apos p : Pos} {ta tv : TE} {t : TA} {k : Nat} {ps : List Str} {sp : Sp}
theorem pe_fldC (cl : Cls X.K C) (na : NoAttr X.K C f) (he : PE X e ta) (hb : attributeBase e f X.env (eval e X.env) = eval e X.env := by rfl) : PE X (.Attribute e f pos) (xFld C ta f) := by
  refine peM (pe_fld (mo he) hb) ?_
  intro σ H Q h
  refine ⟨_, h, ?_⟩
  rintro x H1 ⟨a, dx, fs, v, e1, h1, l, q⟩
  exact ⟨a, C, dx, fs, v, e1, h1, cl, na, l, q⟩
theorem ps_fldC (cl : Cls X.K C) (na : NoAttr X.K C f) (ha : PE X o ta) (hv : PE X value tv) (hs : swapsWith value (some (.Attribute o f pos')) pos.line X.env = pure false := by rfl) : PS X (.Assign [.Attribute o f pos'] value pos) (xSet C ta tv f) := by
  refine psM (ps_fld (mo ha) (mo hv) hs) ?_
  intro D σ H h
  refine ⟨_, h, ?_⟩
  intro y H1 h
  refine ⟨_, h, ?_⟩
  rintro x H2 ⟨a, dx, fs, e1, h1, l, q⟩
  exact ⟨a, C, dx, fs, e1, h1, cl, na, l, q _ (.of h1 fun _ z => by cases z)⟩
theorem pe_methC {pl : Sem Bool} (F : OkM X.prog X.w X.K X.mg X.base k C m ps sp) (hr : Room k X.A) (cl : Cls X.K C) (he : PE X o ta) (ha : PA X (e :: es) t)
    (hst : starEach (e :: es) X.env = (false, eval e X.env) :: starEach es X.env := by rfl) (hpl : (backTo pos (starEach es X.env)).any (·.1) = false := by rfl)
    (ht : eval (.Call (.Attribute o m apos) (e :: es) [] pos) X.env = (do
      let ov ← eval o X.env
      standAt apos.atName
      let (f, first) ← holding [ov] (getMethod ov m pl)
      callWith pos f first (backTo pos (starEach (e :: es) X.env)) (backToKw pos (keywordEach [] X.env))) := by rfl) :
    PE X (.Call (.Attribute o m apos) (e :: es) [] pos) (xMeth C m sp ta t) := by
  obtain ⟨f, fd, F, hm, b⟩ := F
  refine peM (pe_meth (mo he) cl hm F hr b .nil pass0 (moA ha) hst hpl ht) ?_
  intro σ H Q h
  refine ⟨_, h, ?_⟩
  rintro x H1 ⟨a, dx, fs, e1, h1, l, q⟩
  refine ⟨a, dx, fs, e1, h1, l, _, q, ?_⟩
  intro xs H2 h
  rw [List.append_nil]
  exact h
theorem pe_methC0 {pl : Sem Bool} (F : OkM X.prog X.w X.K X.mg X.base k C m ps sp) (hr : Room k X.A) (cl : Cls X.K C) (he : PE X o ta)
    (ht : eval (.Call (.Attribute o m apos) [] [] pos) X.env = (do
      let ov ← eval o X.env
      standAt apos.atName
      let (f, first) ← holding [ov] (getMethod ov m pl)
      callWith pos f first (backTo pos (starEach [] X.env)) (backToKw pos (keywordEach [] X.env))) := by rfl) :
    PE X (.Call (.Attribute o m apos) [] [] pos) (xMeth C m sp ta tNil) := by
  obtain ⟨f, fd, F, hm, b⟩ := F
  refine peM (pe_meth0 (mo he) cl hm F hr b .nil pass0 ht) ?_
  intro σ H Q h
  refine ⟨_, h, ?_⟩
  rintro x H1 ⟨a, dx, fs, e1, h1, l, q⟩
  exact ⟨a, dx, fs, e1, h1, l, q⟩
theorem al_made {H : Hp} {x dx : Addr} (hx : H x = none) (hd : H dx = none) (ne : dx ≠ x) : Al H x (.ins C dx []) (upd (upd H dx (.own x)) x (.ins C dx [])) :=
  ⟨hx, upd_same, fun {b u} e => by rw [upd_ne (ne_of_none e hx), upd_ne (ne_of_none e hd)]; exact e⟩
theorem pe_makeC (F : OkI X.prog X.w X.K X.mg X.base k C ps sp) (hr : Room (k + 1) X.A) (hg : Gl X x) (hm : X.mg x = some (.ref C)) (ha : PA X (e :: es) t) (hdb : (x == ("__debug__" : Str)) = false := by decide)
    (he : starEach (e :: es) X.env = (false, eval e X.env) :: starEach es X.env := by rfl) (hpl : (backTo pos (starEach es X.env)).any (·.1) = false := by rfl) :
    PE X (.Call (.Name x p) (e :: es) [] pos) (xMake C sp t) := by
  obtain ⟨f, fd, F, M, b⟩ := F
  refine peM (pe_make M F hr hg hm b .nil pass0 (moA ha) hdb he hpl) ?_
  intro σ H Q h
  refine ⟨_, h, ?_⟩
  intro xs H1 h a dx h1 h2 h3
  rw [List.append_nil]
  exact h a dx _ (al_made h1 h2 h3)
theorem pe_makeC0 (F : OkI X.prog X.w X.K X.mg X.base k C ps sp) (hr : Room (k + 1) X.A) (hg : Gl X x) (hm : X.mg x = some (.ref C)) (hdb : (x == ("__debug__" : Str)) = false := by decide) :
    PE X (.Call (.Name x p) [] [] pos) (xMake C sp tNil) := by
  obtain ⟨f, fd, F, M, b⟩ := F
  refine peM (pe_make0 M F hr hg hm b .nil pass0 hdb) ?_
  intro σ H Q h a dx h1 h2 h3
  exact h a dx _ (al_made h1 h2 h3)
end

/-! ### dicts -/
def rGetS : R2 := fun x y H Q => ∃ a kvs z v, x = .ref a ∧ y = .str z ∧ H a = some (.dK kvs) ∧ valV kvs (.inr z) = some v ∧ Q v H
def rGetI : R2 := fun x y H Q => ∃ a kvs z v, x = .ref a ∧ y = .int z ∧ H a = some (.dK kvs) ∧ valV kvs (.inl z) = some v ∧ Q v H
/-- k in d, k not in d -/
def rInDS (neg : Bool) : R2 := fun y x H Q => ∃ a kvs z, x = .ref a ∧ y = .str z ∧ H a = some (.dK kvs) ∧ Q (.bl (if neg then !(valV kvs (.inr z)).isSome else (valV kvs (.inr z)).isSome)) H
def rInDI (neg : Bool) : R2 := fun y x H Q => ∃ a kvs z, x = .ref a ∧ y = .int z ∧ H a = some (.dK kvs) ∧ Q (.bl (if neg then !(valV kvs (.inl z)).isSome else (valV kvs (.inl z)).isSome)) H
def xPutS (td ty tv : TE) : TS := fun D σ H => tv σ H fun v H1 => td σ H1 fun x H2 => ty σ H2 fun y H3 => ∃ a kvs z, x = .ref a ∧ y = .str z ∧ H3 a = some (.dK kvs) ∧ kvs.length < sizeLine ∧ ∀ H', Mu H3 a (.dK (putK kvs (.inr z) v)) H' → D.nx σ H'
def xPutI (td ty tv : TE) : TS := fun D σ H => tv σ H fun v H1 => td σ H1 fun x H2 => ty σ H2 fun y H3 => ∃ a kvs z, x = .ref a ∧ y = .int z ∧ H3 a = some (.dK kvs) ∧ kvs.length < sizeLine ∧ ∀ H', Mu H3 a (.dK (putK kvs (.inl z) v)) H' → D.nx σ H'
def xGet2S (td ty tx : TE) : TE := fun σ H Q => td σ H fun x H1 => ∃ a kvs0, x = .ref a ∧ H1 a = some (.dK kvs0) ∧ ty σ H1 fun y H2 => tx σ H2 fun d H3 => ∃ kvs z, y = .str z ∧ H3 a = some (.dK kvs) ∧ Q ((valV kvs (.inr z)).getD d) H3
def xGet2I (td ty tx : TE) : TE := fun σ H Q => td σ H fun x H1 => ∃ a kvs0, x = .ref a ∧ H1 a = some (.dK kvs0) ∧ ty σ H1 fun y H2 => tx σ H2 fun d H3 => ∃ kvs z, y = .int z ∧ H3 a = some (.dK kvs) ∧ Q ((valV kvs (.inl z)).getD d) H3
def xPopI (td ty : TE) : TE := fun σ H Q => td σ H fun x H1 => ∃ a kvs0, x = .ref a ∧ H1 a = some (.dK kvs0) ∧ ty σ H1 fun y H2 => ∃ kvs z v, y = .int z ∧ H2 a = some (.dK kvs) ∧ valV kvs (.inl z) = some v ∧ ∀ H', Mu H2 a (.dK (dropK kvs (.inl z))) H' → Q v H'
def rDctD : List V → Hp → VK → Prop := fun vs H Q => ∃ a kvs, vs = [.ref a] ∧ H a = some (.dK kvs) ∧ ∀ p H', Al H p (.dK kvs) H' → Q (.ref p) H'
def rLstD : List V → Hp → VK → Prop := fun vs H Q => ∃ a kvs, vs = [.ref a] ∧ H a = some (.dK kvs) ∧ ∀ p H', Al H p (.lst (kvs.map fun kv => kV kv.1)) H' → Q (.ref p) H'
def rSrtL : List V → Hp → VK → Prop := fun vs H Q => ∃ (a : Addr) (xs : List Str), vs = [V.ref a] ∧ H a = some (.lst (xs.map V.str)) ∧ xs.length < 64 ∧ ∀ (ys : List Str) (p : Addr) H', ys.Perm xs → sortedS ys = true → Al H p (.lst (ys.map V.str)) H' → Q (.ref p) H'
def rSrtD : List V → Hp → VK → Prop := fun vs H Q => ∃ (a : Addr) (kvs : List (Key × V)) (ks : List Str), vs = [V.ref a] ∧ H a = some (.dK kvs) ∧ kvs.map (·.1) = ks.map Sum.inr ∧ ks.length < 64 ∧ ∀ (ys : List Str) (p : Addr) H', ys.Perm ks → sortedS ys = true → Al H p (.lst (ys.map V.str)) H' → Q (.ref p) H'
section
variable {X : Cx} {o i e f value : Expr} {pos pos' apos cpos : Pos} {td ty tv tx : TE}
theorem opW {e : Expr} {r r' : R2} {ta tb : TE} (h : PE X e (tOp r (tMono ta) (tMono tb))) (m : ∀ x y H Q, r' x y H Q → r x y H Q) : PE X e (tOp r' ta tb) :=
  peM h fun σ H Q h => ⟨_, h, fun x H1 h => ⟨_, h, fun y H2 h => m x y H2 Q h⟩⟩
theorem pcW {op : CmpOp} {a b : Expr} {r r' : R2} {ta tb : TE} (h : PC X op a b (tOp r (tMono ta) (tMono tb))) (m : ∀ x y H Q, r' x y H Q → r x y H Q) : PC X op a b (tOp r' ta tb) :=
  ⟨fun pins s σ H Q I q => h.run pins s σ H Q I ⟨_, q, fun x H1 h => ⟨_, h, fun y H2 h => m x y H2 Q h⟩⟩⟩
theorem pe_getS (hu : X.A.units + 1 < cLine) (ho : PE X o td) (hi : PE X i ty) (hs : NoSl i) : PE X (.Subscript o i pos) (tOp rGetS td ty) :=
  opW (pe_dget hu (mo ho) (mo hi) hs) fun x y H Q ⟨a, kvs, z, v, e1, e2, h, g, q⟩ => ⟨a, v, e1, by subst e2; have := DGet.k (k := .inr z) h; rw [g] at this; exact this, q⟩
theorem pe_getI (hu : X.A.units + 1 < cLine) (ho : PE X o td) (hi : PE X i ty) (hs : NoSl i) : PE X (.Subscript o i pos) (tOp rGetI td ty) :=
  opW (pe_dget hu (mo ho) (mo hi) hs) fun x y H Q ⟨a, kvs, z, v, e1, e2, h, g, q⟩ => ⟨a, v, e1, by subst e2; have := DGet.k (k := .inl z) h; rw [g] at this; exact this, q⟩
theorem pc_inS (hu : X.A.units + 1 < cLine) (hi : PE X i ty) (ho : PE X o td) : PC X .In i o (tOp (rInDS false) ty td) :=
  pcW (pc_din hu (mo hi) (mo ho)) fun y x H Q ⟨a, kvs, z, e1, e2, h, q⟩ => ⟨a, _, e1, by subst e2; exact DGet.k (k := .inr z) h, q⟩
theorem pc_ninS (hu : X.A.units + 1 < cLine) (hi : PE X i ty) (ho : PE X o td) : PC X .NotIn i o (tOp (rInDS true) ty td) :=
  pcW (pc_dnotin hu (mo hi) (mo ho)) fun y x H Q ⟨a, kvs, z, e1, e2, h, q⟩ => ⟨a, _, e1, by subst e2; exact DGet.k (k := .inr z) h, q⟩
theorem pc_inI (hu : X.A.units + 1 < cLine) (hi : PE X i ty) (ho : PE X o td) : PC X .In i o (tOp (rInDI false) ty td) :=
  pcW (pc_din hu (mo hi) (mo ho)) fun y x H Q ⟨a, kvs, z, e1, e2, h, q⟩ => ⟨a, _, e1, by subst e2; exact DGet.k (k := .inl z) h, q⟩
theorem pc_ninI (hu : X.A.units + 1 < cLine) (hi : PE X i ty) (ho : PE X o td) : PC X .NotIn i o (tOp (rInDI true) ty td) :=
  pcW (pc_dnotin hu (mo hi) (mo ho)) fun y x H Q ⟨a, kvs, z, e1, e2, h, q⟩ => ⟨a, _, e1, by subst e2; exact DGet.k (k := .inl z) h, q⟩
theorem ps_putS (hu : X.A.units + 1 < cLine) (ho : PE X o td) (hi : PE X i ty) (hv : PE X value tv) (hs : swapsWith value (some (.Subscript o i pos')) pos.line X.env = pure false := by rfl) : PS X (.Assign [.Subscript o i pos'] value pos) (xPutS td ty tv) := by
  refine psM (ps_dput hu (mo ho) (mo hi) (mo hv) hs) fun D σ H h => ⟨_, h, fun v H1 h => ⟨_, h, fun x H2 h => ⟨_, h, ?_⟩⟩⟩
  rintro y H3 ⟨a, kvs, z, e1, e2, hh, hl, q⟩
  subst e1 e2
  exact ⟨a, _, rfl, DPut.k (k := .inr z) hh hl, q _ (.of hh fun _ z => by cases z)⟩
theorem ps_putI (hu : X.A.units + 1 < cLine) (ho : PE X o td) (hi : PE X i ty) (hv : PE X value tv) (hs : swapsWith value (some (.Subscript o i pos')) pos.line X.env = pure false := by rfl) : PS X (.Assign [.Subscript o i pos'] value pos) (xPutI td ty tv) := by
  refine psM (ps_dput hu (mo ho) (mo hi) (mo hv) hs) fun D σ H h => ⟨_, h, fun v H1 h => ⟨_, h, fun x H2 h => ⟨_, h, ?_⟩⟩⟩
  rintro y H3 ⟨a, kvs, z, e1, e2, hh, hl, q⟩
  subst e1 e2
  exact ⟨a, _, rfl, DPut.k (k := .inl z) hh hl, q _ (.of hh fun _ z => by cases z)⟩
theorem pe_get2S (hu : X.A.units + 1 < cLine) (ho : PE X o td) (he : PE X e ty) (hf : PE X f tx) (m : M2 X o "get" apos e f cpos := by exact ⟨rfl, rfl, rfl, rfl⟩) : PE X (.Call (.Attribute o "get" apos) [e, f] [] cpos) (xGet2S td ty tx) := by
  refine peM (pe_dget2 hu (mo ho) (mo he) (mo hf) m) fun σ H Q h => ⟨_, h, ?_⟩
  rintro x H1 ⟨a, kvs0, e1, h1, h⟩
  refine ⟨a, e1, .inl ⟨_, .inl h1⟩, _, h, fun y H2 h => ⟨_, h, ?_⟩⟩
  rintro d H3 ⟨kvs, z, e2, h3, q⟩
  subst e2
  exact ⟨_, DGet.k (k := .inr z) h3, q⟩
theorem pe_get2I (hu : X.A.units + 1 < cLine) (ho : PE X o td) (he : PE X e ty) (hf : PE X f tx) (m : M2 X o "get" apos e f cpos := by exact ⟨rfl, rfl, rfl, rfl⟩) : PE X (.Call (.Attribute o "get" apos) [e, f] [] cpos) (xGet2I td ty tx) := by
  refine peM (pe_dget2 hu (mo ho) (mo he) (mo hf) m) fun σ H Q h => ⟨_, h, ?_⟩
  rintro x H1 ⟨a, kvs0, e1, h1, h⟩
  refine ⟨a, e1, .inl ⟨_, .inl h1⟩, _, h, fun y H2 h => ⟨_, h, ?_⟩⟩
  rintro d H3 ⟨kvs, z, e2, h3, q⟩
  subst e2
  exact ⟨_, DGet.k (k := .inl z) h3, q⟩
theorem pe_popI (ho : PE X o td) (he : PE X e ty) (m : M1 X o "pop" apos e cpos := by exact ⟨rfl, rfl, rfl, rfl⟩) : PE X (.Call (.Attribute o "pop" apos) [e] [] cpos) (xPopI td ty) := by
  refine peM (pe_dpop1 (mo ho) (mo he) m) fun σ H Q h => ⟨_, h, ?_⟩
  rintro x H1 ⟨a, kvs0, e1, h1, h⟩
  refine ⟨a, e1, .inl ⟨_, .inl h1⟩, _, h, ?_⟩
  rintro y H2 ⟨kvs, z, v, e2, h2, g, q⟩
  exact ⟨kvs, .inl z, v, h2, e2, g, q _ (.of h2 fun _ z => by cases z)⟩
theorem cl_dctD : CallR X (.type "dict") rDctD := clM call_dictD fun _ _ _ ⟨a, kvs, e, h, q⟩ => ⟨a, kvs, e, .inl h, fun p hp => q p _ (.of hp)⟩
theorem cl_lstD (hc : X.calm = true) : CallR X (.type "list") rLstD := clM (call_listD hc) fun _ _ _ ⟨a, kvs, e, h, q⟩ => ⟨a, kvs, e, .inl h, fun p hp => q p _ (.of hp)⟩
theorem cl_srtL : CallR X (.builtin "sorted") rSrtL := clM cr_sortedS fun _ _ _ ⟨a, xs, e, h, hl, q⟩ => ⟨a, xs, e, SqL.of h, hl, fun ys p h1 h2 hp => q ys p _ h1 h2 (.of hp)⟩
theorem cl_srtD (hc : X.calm = true) : CallR X (.builtin "sorted") rSrtD := clM (call_sortedD hc) fun _ _ _ ⟨a, kvs, ks, e, h, hk, hl, q⟩ => ⟨a, kvs, ks, e, .inl h, hk, hl, fun ys p h1 h2 hp => q ys p _ h1 h2 (.of hp)⟩
end

/-! ### tuples joined -/
def rCatT : R2 := fun x y H Q => ∃ a b xs ys, x = .ref a ∧ y = .ref b ∧ H a = some (.tup xs) ∧ H b = some (.tup ys) ∧ xs.length + ys.length ≤ sizeLine ∧ ∀ p H', H' p = some (.tup (xs ++ ys)) → Fr [] H H' → Q (.ref p) H'
theorem op_catX {X : Cx} : OpR X (binaryOp .Add) rCatT := opM op_catA fun x y H Q ⟨a, b, xs, ys, e1, e2, h1, h2, hz, q⟩ => ⟨a, b, xs, ys, e1, e2, SqT.of h1, SqT.of h2, hz,
  fun e => q b H (by rw [e]; exact h2) (.refl _ _), fun _ e => q a H (by rw [e, List.append_nil]; exact h1) (.refl _ _), fun _ _ p hp => q p _ upd_same (Al.of hp).fr⟩
end Hn

namespace Hn
open PySem PySem.Spec PyProof.Rows L2
/-- _law_take from 3 -/
def t_L_take_3 (K : PySem.W.Frag) : TS :=
  (tSeq (tIfS (tTest (tOp (rInT false) (tOp rXL (tOp rXL (tVar 0) (tC (.int 0))) (tC (.int 0))) (xTup (tCons (tC (.int 0)) (tCons (tUn (rU fun i => .int (-i)) (tC (.int 1))) tNil))))) (tDrop (tPopAt (tOp rXL (tVar 0) (tC (.int 0))) (tC (.int 0)))) tNext)
    (tRet (tOp (rI (fun _ j => 0 < j) fun i j => .int (i % j)) (tVar 2) (tVar 1))))

/-- _law_take from 2 -/
def t_L_take_2 (K : PySem.W.Frag) : TS :=
  tSeq (tAsg (tOp (rI CDiv fun i j => .int (i / j)) (tVar 2) (tVar 1)) (gSub (tOp rXL (tVar 0) (tC (.int 0))) (tC (.int 0)) rStL)) (t_L_take_3 K)

/-- _law_take from 1 -/
def t_L_take_1 (K : PySem.W.Frag) : TS :=
  tSeq (tAsg (tOp rXL (tOp rXL (tVar 0) (tC (.int 0))) (tC (.int 0))) (gName 2)) (t_L_take_2 K)

/-- _law_take -/
def t_L_take (K : PySem.W.Frag) : TS :=
  tSeq (tIfS (tTest (tOp rEqE (tOp rXL (tVar 0) (tC (.int 0))) (xLst tNil))) (tSeq (tAsg (tOp (rI (fun _ j => 0 < j) fun i j => .int (i % j)) (tOp (rI CMul fun i j => .int (i * j)) (tOp rXL (tVar 0) (tC (.int 1))) (tC (.int 48271))) (tC (.int 2147483647))) (gSub (tVar 0) (tC (.int 1)) rStL))
    (tRet (tOp (rI (fun _ j => 0 < j) fun i j => .int (i % j)) (tOp (rI CDiv fun i j => .int (i / j)) (tOp rXL (tVar 0) (tC (.int 1))) (tC (.int 7))) (tVar 1)))) tNext) (t_L_take_1 K)

theorem map_int_head {ns : List Int} (h : ns.isEmpty = false) : ∃ n r, ns = n :: r := by
  cases ns with
  | nil => cases h
  | cons n r => exact ⟨n, r, rfl⟩
theorem rd_L_take {K : PySem.W.Frag} {vs : List V} {H : Hp} {Q : VK} {E : XK} (h : sp_L_take vs H Q E) : t_L_take K { nx := fun _ H' => Q .non H', rt := Q } (start ["_", "_", "_"] vs) H := by
  obtain ⟨b, l, m, rfl, ⟨ne, ns, s, hb, hl, s0, s1⟩, m0, m1, k⟩ := h
  show t_L_take K _ [some (.ref b), some (.int m), none] H
  unfold t_L_take
  refine st_seq ?_
  simp only [tIfS, tRet, tRetN, tAsg, gName, gSub, gCons, gNil, gTup, tDrop, tNext, tVar, tC, tOp, tUn, tTest, tB, tAnd, tOr, tNot, tAndV, tOrV, tNotV, tIf, tCons, tNil, xLst, xTup, xDic, tCB, tCall, tChain, tSl, tPart, tNoPart, rI, rI0, rU, rEq, rNe, scal, rXL, rXT, rXQ, rLenL, rLenT, rLenS, rLenQ, rInt1, rTupL, rLstL, rIsN, rNotN, rInT, rAddS, rLtS, rInS1, rNinS1, rIxS, rSlS, rStL, rCt, rSL, tApp, tPopAt, tPopL, tJoinL, tIndex, xFld, xSet, xMeth, xMake, rGetS, rGetI, rInDS, rInDI, xPutS, xPutI, xGet2S, xGet2I, xPopI, rDctD, rLstD, rCatT, HO.ins.injEq, ixN0, ixN1, ixN2, ixN3, atI0, atI1, atI2, atI3, eqV_str, eqV_int, eqV_is, eqV_si, inV_nil, inV_cons, flatV, List.all_cons, List.all_nil, wd_eq, wd_ne0, wd_ne0', List.getElem?_cons_zero, List.getElem?_cons_succ, List.set_cons_zero, List.set_cons_succ, List.cons_append, List.nil_append, List.append_nil, Nat.reduceAdd, Nat.reduceLT, Option.some.injEq, V.int.injEq, V.str.injEq, V.bl.injEq, V.ref.injEq, HO.lst.injEq, HO.tup.injEq, HO.dK.injEq, List.cons.injEq, exists_eq_left, exists_eq_left', exists_eq_right, exists_eq_right', exists_and_left, exists_and_right, exists_const, exists_eq, exists_eq', and_assoc, true_and, and_true, false_and, and_false, true_or, or_true, false_or, or_false, reduceCtorEq, not_true_eq_false, not_false_eq_true, decide_true, decide_false, decide_eq_true_eq, decide_not, Bool.not_true, Bool.not_false, Bool.false_eq_true, Bool.true_and, Bool.and_true, Bool.false_and, Bool.and_false, Bool.true_or, Bool.or_true, Bool.false_or, Bool.or_false, if_true, if_false, ite_true, ite_false, Nat.reduceEqDiff, exists_false, eq_self, upd_same, Bool.not_eq_true', decide_eq_false_iff_not, hb]
  refine ⟨by decide, fun p H1 A => ⟨l, p, ns, rfl, rfl, A.k hl, A.at_, _, rfl, ?_⟩⟩
  cases e : ns.isEmpty with
  | true =>
    refine iteT (st_seq ?_)
    simp only [tIfS, tRet, tRetN, tAsg, gName, gSub, gCons, gNil, gTup, tDrop, tNext, tVar, tC, tOp, tUn, tTest, tB, tAnd, tOr, tNot, tAndV, tOrV, tNotV, tIf, tCons, tNil, xLst, xTup, xDic, tCB, tCall, tChain, tSl, tPart, tNoPart, rI, rI0, rU, rEq, rNe, scal, rXL, rXT, rXQ, rLenL, rLenT, rLenS, rLenQ, rInt1, rTupL, rLstL, rIsN, rNotN, rInT, rAddS, rLtS, rInS1, rNinS1, rIxS, rSlS, rStL, rCt, rSL, tApp, tPopAt, tPopL, tJoinL, tIndex, xFld, xSet, xMeth, xMake, rGetS, rGetI, rInDS, rInDI, xPutS, xPutI, xGet2S, xGet2I, xPopI, rDctD, rLstD, rCatT, HO.ins.injEq, ixN0, ixN1, ixN2, ixN3, atI0, atI1, atI2, atI3, eqV_str, eqV_int, eqV_is, eqV_si, inV_nil, inV_cons, flatV, List.all_cons, List.all_nil, wd_eq, wd_ne0, wd_ne0', List.getElem?_cons_zero, List.getElem?_cons_succ, List.set_cons_zero, List.set_cons_succ, List.cons_append, List.nil_append, List.append_nil, Nat.reduceAdd, Nat.reduceLT, Option.some.injEq, V.int.injEq, V.str.injEq, V.bl.injEq, V.ref.injEq, HO.lst.injEq, HO.tup.injEq, HO.dK.injEq, List.cons.injEq, exists_eq_left, exists_eq_left', exists_eq_right, exists_eq_right', exists_and_left, exists_and_right, exists_const, exists_eq, exists_eq', and_assoc, true_and, and_true, false_and, and_false, true_or, or_true, false_or, or_false, reduceCtorEq, not_true_eq_false, not_false_eq_true, decide_true, decide_false, decide_eq_true_eq, decide_not, Bool.not_true, Bool.not_false, Bool.false_eq_true, Bool.true_and, Bool.and_true, Bool.false_and, Bool.and_false, Bool.true_or, Bool.or_true, Bool.false_or, Bool.or_false, if_true, if_false, ite_true, ite_false, Nat.reduceEqDiff, exists_false, eq_self, upd_same, Bool.not_eq_true', decide_eq_false_iff_not, A.k hb]
    refine ⟨.inl ⟨by omega, by omega⟩, by decide, ?_⟩
    intro H2 M
    simp only [tIfS, tRet, tRetN, tAsg, gName, gSub, gCons, gNil, gTup, tDrop, tNext, tVar, tC, tOp, tUn, tTest, tB, tAnd, tOr, tNot, tAndV, tOrV, tNotV, tIf, tCons, tNil, xLst, xTup, xDic, tCB, tCall, tChain, tSl, tPart, tNoPart, rI, rI0, rU, rEq, rNe, scal, rXL, rXT, rXQ, rLenL, rLenT, rLenS, rLenQ, rInt1, rTupL, rLstL, rIsN, rNotN, rInT, rAddS, rLtS, rInS1, rNinS1, rIxS, rSlS, rStL, rCt, rSL, tApp, tPopAt, tPopL, tJoinL, tIndex, xFld, xSet, xMeth, xMake, rGetS, rGetI, rInDS, rInDI, xPutS, xPutI, xGet2S, xGet2I, xPopI, rDctD, rLstD, rCatT, HO.ins.injEq, ixN0, ixN1, ixN2, ixN3, atI0, atI1, atI2, atI3, eqV_str, eqV_int, eqV_is, eqV_si, inV_nil, inV_cons, flatV, List.all_cons, List.all_nil, wd_eq, wd_ne0, wd_ne0', List.getElem?_cons_zero, List.getElem?_cons_succ, List.set_cons_zero, List.set_cons_succ, List.cons_append, List.nil_append, List.append_nil, Nat.reduceAdd, Nat.reduceLT, Option.some.injEq, V.int.injEq, V.str.injEq, V.bl.injEq, V.ref.injEq, HO.lst.injEq, HO.tup.injEq, HO.dK.injEq, List.cons.injEq, exists_eq_left, exists_eq_left', exists_eq_right, exists_eq_right', exists_and_left, exists_and_right, exists_const, exists_eq, exists_eq', and_assoc, true_and, and_true, false_and, and_false, true_or, or_true, false_or, or_false, reduceCtorEq, not_true_eq_false, not_false_eq_true, decide_true, decide_false, decide_eq_true_eq, decide_not, Bool.not_true, Bool.not_false, Bool.false_eq_true, Bool.true_and, Bool.and_true, Bool.false_and, Bool.and_false, Bool.true_or, Bool.or_true, Bool.false_or, Bool.or_false, if_true, if_false, ite_true, ite_false, Nat.reduceEqDiff, exists_false, eq_self, upd_same, Bool.not_eq_true', decide_eq_false_iff_not, M.at_, List.set]
    have g0 : 0 ≤ s * 48271 % 2147483647 := Int.emod_nonneg _ (by decide)
    have g1 : s * 48271 % 2147483647 < 2147483647 := Int.emod_lt_of_pos _ (by decide)
    refine ⟨⟨by decide, by decide⟩, m0, ?_⟩
    exact k _ _ (Int.emod_nonneg _ (by omega)) (Int.emod_lt_of_pos _ m0) ⟨ne, ns, _, M.at_, M.k (A.k hl) ne.symm, g0, g1⟩ ((A.fr).mu M (by simp))
  | false =>
    refine iteF (st_seq ?_)
    obtain ⟨n, r, rfl⟩ := map_int_head e
    simp only [tIfS, tRet, tRetN, tAsg, gName, gSub, gCons, gNil, gTup, tDrop, tNext, tVar, tC, tOp, tUn, tTest, tB, tAnd, tOr, tNot, tAndV, tOrV, tNotV, tIf, tCons, tNil, xLst, xTup, xDic, tCB, tCall, tChain, tSl, tPart, tNoPart, rI, rI0, rU, rEq, rNe, scal, rXL, rXT, rXQ, rLenL, rLenT, rLenS, rLenQ, rInt1, rTupL, rLstL, rIsN, rNotN, rInT, rAddS, rLtS, rInS1, rNinS1, rIxS, rSlS, rStL, rCt, rSL, tApp, tPopAt, tPopL, tJoinL, tIndex, xFld, xSet, xMeth, xMake, rGetS, rGetI, rInDS, rInDI, xPutS, xPutI, xGet2S, xGet2I, xPopI, rDctD, rLstD, rCatT, HO.ins.injEq, ixN0, ixN1, ixN2, ixN3, atI0, atI1, atI2, atI3, eqV_str, eqV_int, eqV_is, eqV_si, inV_nil, inV_cons, flatV, List.all_cons, List.all_nil, wd_eq, wd_ne0, wd_ne0', List.getElem?_cons_zero, List.getElem?_cons_succ, List.set_cons_zero, List.set_cons_succ, List.cons_append, List.nil_append, List.append_nil, Nat.reduceAdd, Nat.reduceLT, Option.some.injEq, V.int.injEq, V.str.injEq, V.bl.injEq, V.ref.injEq, HO.lst.injEq, HO.tup.injEq, HO.dK.injEq, List.cons.injEq, exists_eq_left, exists_eq_left', exists_eq_right, exists_eq_right', exists_and_left, exists_and_right, exists_const, exists_eq, exists_eq', and_assoc, true_and, and_true, false_and, and_false, true_or, or_true, false_or, or_false, reduceCtorEq, not_true_eq_false, not_false_eq_true, decide_true, decide_false, decide_eq_true_eq, decide_not, Bool.not_true, Bool.not_false, Bool.false_eq_true, Bool.true_and, Bool.and_true, Bool.false_and, Bool.and_false, Bool.true_or, Bool.or_true, Bool.false_or, Bool.or_false, if_true, if_false, ite_true, ite_false, Nat.reduceEqDiff, exists_false, eq_self, upd_same, Bool.not_eq_true', decide_eq_false_iff_not, A.k hb, A.k hl, List.map_cons]
    refine st_seq ?_
    simp only [tIfS, tRet, tRetN, tAsg, gName, gSub, gCons, gNil, gTup, tDrop, tNext, tVar, tC, tOp, tUn, tTest, tB, tAnd, tOr, tNot, tAndV, tOrV, tNotV, tIf, tCons, tNil, xLst, xTup, xDic, tCB, tCall, tChain, tSl, tPart, tNoPart, rI, rI0, rU, rEq, rNe, scal, rXL, rXT, rXQ, rLenL, rLenT, rLenS, rLenQ, rInt1, rTupL, rLstL, rIsN, rNotN, rInT, rAddS, rLtS, rInS1, rNinS1, rIxS, rSlS, rStL, rCt, rSL, tApp, tPopAt, tPopL, tJoinL, tIndex, xFld, xSet, xMeth, xMake, rGetS, rGetI, rInDS, rInDI, xPutS, xPutI, xGet2S, xGet2I, xPopI, rDctD, rLstD, rCatT, HO.ins.injEq, ixN0, ixN1, ixN2, ixN3, atI0, atI1, atI2, atI3, eqV_str, eqV_int, eqV_is, eqV_si, inV_nil, inV_cons, flatV, List.all_cons, List.all_nil, wd_eq, wd_ne0, wd_ne0', List.getElem?_cons_zero, List.getElem?_cons_succ, List.set_cons_zero, List.set_cons_succ, List.cons_append, List.nil_append, List.append_nil, Nat.reduceAdd, Nat.reduceLT, Option.some.injEq, V.int.injEq, V.str.injEq, V.bl.injEq, V.ref.injEq, HO.lst.injEq, HO.tup.injEq, HO.dK.injEq, List.cons.injEq, exists_eq_left, exists_eq_left', exists_eq_right, exists_eq_right', exists_and_left, exists_and_right, exists_const, exists_eq, exists_eq', and_assoc, true_and, and_true, false_and, and_false, true_or, or_true, false_or, or_false, reduceCtorEq, not_true_eq_false, not_false_eq_true, decide_true, decide_false, decide_eq_true_eq, decide_not, Bool.not_true, Bool.not_false, Bool.false_eq_true, Bool.true_and, Bool.and_true, Bool.false_and, Bool.and_false, Bool.true_or, Bool.or_true, Bool.false_or, Bool.or_false, if_true, if_false, ite_true, ite_false, Nat.reduceEqDiff, exists_false, eq_self, upd_same, Bool.not_eq_true', decide_eq_false_iff_not, A.k hb, A.k hl, List.map_cons]
    refine ⟨⟨m0, m1⟩, fun H2 M => st_seq ?_⟩
    have hb2 := M.k (A.k hb) ne
    have hl2 : H2 l = some (.lst (.int (n / m) :: r.map V.int)) := M.at_
    have f2 : Fr [b, l] H H2 := A.fr.mu M (by simp)
    simp only [tIfS, tRet, tRetN, tAsg, gName, gSub, gCons, gNil, gTup, tDrop, tNext, tVar, tC, tOp, tUn, tTest, tB, tAnd, tOr, tNot, tAndV, tOrV, tNotV, tIf, tCons, tNil, xLst, xTup, xDic, tCB, tCall, tChain, tSl, tPart, tNoPart, rI, rI0, rU, rEq, rNe, scal, rXL, rXT, rXQ, rLenL, rLenT, rLenS, rLenQ, rInt1, rTupL, rLstL, rIsN, rNotN, rInT, rAddS, rLtS, rInS1, rNinS1, rIxS, rSlS, rStL, rCt, rSL, tApp, tPopAt, tPopL, tJoinL, tIndex, xFld, xSet, xMeth, xMake, rGetS, rGetI, rInDS, rInDI, xPutS, xPutI, xGet2S, xGet2I, xPopI, rDctD, rLstD, rCatT, HO.ins.injEq, ixN0, ixN1, ixN2, ixN3, atI0, atI1, atI2, atI3, eqV_str, eqV_int, eqV_is, eqV_si, inV_nil, inV_cons, flatV, List.all_cons, List.all_nil, wd_eq, wd_ne0, wd_ne0', List.getElem?_cons_zero, List.getElem?_cons_succ, List.set_cons_zero, List.set_cons_succ, List.cons_append, List.nil_append, List.append_nil, Nat.reduceAdd, Nat.reduceLT, Option.some.injEq, V.int.injEq, V.str.injEq, V.bl.injEq, V.ref.injEq, HO.lst.injEq, HO.tup.injEq, HO.dK.injEq, List.cons.injEq, exists_eq_left, exists_eq_left', exists_eq_right, exists_eq_right', exists_and_left, exists_and_right, exists_const, exists_eq, exists_eq', and_assoc, true_and, and_true, false_and, and_false, true_or, or_true, false_or, or_false, reduceCtorEq, not_true_eq_false, not_false_eq_true, decide_true, decide_false, decide_eq_true_eq, decide_not, Bool.not_true, Bool.not_false, Bool.false_eq_true, Bool.true_and, Bool.and_true, Bool.false_and, Bool.and_false, Bool.true_or, Bool.or_true, Bool.false_or, Bool.or_false, if_true, if_false, ite_true, ite_false, Nat.reduceEqDiff, exists_false, eq_self, upd_same, Bool.not_eq_true', decide_eq_false_iff_not, hb2, hl2]
    refine ⟨by decide, fun q H3 A3 => ?_⟩
    simp only [tIfS, tRet, tRetN, tAsg, gName, gSub, gCons, gNil, gTup, tDrop, tNext, tVar, tC, tOp, tUn, tTest, tB, tAnd, tOr, tNot, tAndV, tOrV, tNotV, tIf, tCons, tNil, xLst, xTup, xDic, tCB, tCall, tChain, tSl, tPart, tNoPart, rI, rI0, rU, rEq, rNe, scal, rXL, rXT, rXQ, rLenL, rLenT, rLenS, rLenQ, rInt1, rTupL, rLstL, rIsN, rNotN, rInT, rAddS, rLtS, rInS1, rNinS1, rIxS, rSlS, rStL, rCt, rSL, tApp, tPopAt, tPopL, tJoinL, tIndex, xFld, xSet, xMeth, xMake, rGetS, rGetI, rInDS, rInDI, xPutS, xPutI, xGet2S, xGet2I, xPopI, rDctD, rLstD, rCatT, HO.ins.injEq, ixN0, ixN1, ixN2, ixN3, atI0, atI1, atI2, atI3, eqV_str, eqV_int, eqV_is, eqV_si, inV_nil, inV_cons, flatV, List.all_cons, List.all_nil, wd_eq, wd_ne0, wd_ne0', List.getElem?_cons_zero, List.getElem?_cons_succ, List.set_cons_zero, List.set_cons_succ, List.cons_append, List.nil_append, List.append_nil, Nat.reduceAdd, Nat.reduceLT, Option.some.injEq, V.int.injEq, V.str.injEq, V.bl.injEq, V.ref.injEq, HO.lst.injEq, HO.tup.injEq, HO.dK.injEq, List.cons.injEq, exists_eq_left, exists_eq_left', exists_eq_right, exists_eq_right', exists_and_left, exists_and_right, exists_const, exists_eq, exists_eq', and_assoc, true_and, and_true, false_and, and_false, true_or, or_true, false_or, or_false, reduceCtorEq, not_true_eq_false, not_false_eq_true, decide_true, decide_false, decide_eq_true_eq, decide_not, Bool.not_true, Bool.not_false, Bool.false_eq_true, Bool.true_and, Bool.and_true, Bool.false_and, Bool.and_false, Bool.true_or, Bool.or_true, Bool.false_or, Bool.or_false, if_true, if_false, ite_true, ite_false, Nat.reduceEqDiff, exists_false, eq_self, upd_same, Bool.not_eq_true', decide_eq_false_iff_not, A3.at_]
    split
    · simp only [tIfS, tRet, tRetN, tAsg, gName, gSub, gCons, gNil, gTup, tDrop, tNext, tVar, tC, tOp, tUn, tTest, tB, tAnd, tOr, tNot, tAndV, tOrV, tNotV, tIf, tCons, tNil, xLst, xTup, xDic, tCB, tCall, tChain, tSl, tPart, tNoPart, rI, rI0, rU, rEq, rNe, scal, rXL, rXT, rXQ, rLenL, rLenT, rLenS, rLenQ, rInt1, rTupL, rLstL, rIsN, rNotN, rInT, rAddS, rLtS, rInS1, rNinS1, rIxS, rSlS, rStL, rCt, rSL, tApp, tPopAt, tPopL, tJoinL, tIndex, xFld, xSet, xMeth, xMake, rGetS, rGetI, rInDS, rInDI, xPutS, xPutI, xGet2S, xGet2I, xPopI, rDctD, rLstD, rCatT, HO.ins.injEq, ixN0, ixN1, ixN2, ixN3, atI0, atI1, atI2, atI3, eqV_str, eqV_int, eqV_is, eqV_si, inV_nil, inV_cons, flatV, List.all_cons, List.all_nil, wd_eq, wd_ne0, wd_ne0', List.getElem?_cons_zero, List.getElem?_cons_succ, List.set_cons_zero, List.set_cons_succ, List.cons_append, List.nil_append, List.append_nil, Nat.reduceAdd, Nat.reduceLT, Option.some.injEq, V.int.injEq, V.str.injEq, V.bl.injEq, V.ref.injEq, HO.lst.injEq, HO.tup.injEq, HO.dK.injEq, List.cons.injEq, exists_eq_left, exists_eq_left', exists_eq_right, exists_eq_right', exists_and_left, exists_and_right, exists_const, exists_eq, exists_eq', and_assoc, true_and, and_true, false_and, and_false, true_or, or_true, false_or, or_false, reduceCtorEq, not_true_eq_false, not_false_eq_true, decide_true, decide_false, decide_eq_true_eq, decide_not, Bool.not_true, Bool.not_false, Bool.false_eq_true, Bool.true_and, Bool.and_true, Bool.false_and, Bool.and_false, Bool.true_or, Bool.or_true, Bool.false_or, Bool.or_false, if_true, if_false, ite_true, ite_false, Nat.reduceEqDiff, exists_false, eq_self, upd_same, Bool.not_eq_true', decide_eq_false_iff_not, A3.k hb2, A3.k hl2]
      intro H4 M4
      exact ⟨m0, k _ _ (Int.emod_nonneg _ (by omega)) (Int.emod_lt_of_pos _ m0) ⟨ne, r, s, M4.k (A3.k hb2) ne, M4.at_, s0, s1⟩ ((f2.al A3).mu M4 (by simp))⟩
    · exact ⟨m0, k _ _ (Int.emod_nonneg _ (by omega)) (Int.emod_lt_of_pos _ m0) ⟨ne, (n / m) :: r, s, A3.k hb2, A3.k hl2, s0, s1⟩ (f2.al A3)⟩
end Hn

namespace Hn
open PySem PySem.Spec PyProof.Rows L2
/-- kind_of -/
def t_kind_of (K : PySem.W.Frag) : TS :=
  (tSeq (tIfS (tB (tCB (rIs "str") (tCons (tVar 0) (tCons (tC (.ty "str")) tNil)))) (tRet (tC (.str (wd 24)))) tNext)
    (tRet (tC (.str (wd 23)))))

/-- is_so -/
def t_is_so (K : PySem.W.Frag) : TS :=
  (tRet (tAndV (tOp rNe (tVar 0) (tC (.int 0))) (tOp rNe (tVar 0) (tC (.str ("" : Str))))))

/-- of_numbers from 1 -/
def t_of_numbers_1 (K : PySem.W.Frag) : TS :=
  (tSeq (tIfS (tTest (tOp rEq (tVar 0) (tC (.str (wd 4))))) (tRet (tOp (rI (fun _ j => 0 < j) fun i j => .int (i % j)) (tOp (rI0 fun i j => .int (i - j)) (tVar 1) (tVar 2)) (tC (.int 10007)))) tNext)
    (tRet (tCB rInt1 (tCons (tOp (rI0 fun i j => .bl (decide (i < j))) (tVar 1) (tVar 2)) tNil))))

/-- of_numbers -/
def t_of_numbers (K : PySem.W.Frag) : TS :=
  tSeq (tIfS (tTest (tOp rEq (tVar 0) (tC (.str (wd 3))))) (tRet (tOp (rI (fun _ j => 0 < j) fun i j => .int (i % j)) (tOp (rI0 fun i j => .int (i + j)) (tVar 1) (tVar 2)) (tC (.int 10007)))) tNext) (t_of_numbers_1 K)

/-- worked from 2 -/
def t_worked_2 (K : PySem.W.Frag) : TS :=
  (tSeq (tIfS (tTest (tOp rEq (tCall sp_kind_of [] E0 (tCons (tVar 1) tNil)) (tC (.str (wd 23))))) (tRet (tCall sp_of_numbers [] E0 (tCons (tVar 0) (tCons (tVar 1) (tCons (tVar 2) tNil))))) tNext)
    (tRet (tCall sp_of_texts [] E0 (tCons (tVar 0) (tCons (tVar 1) (tCons (tVar 2) tNil))))))

/-- worked from 1 -/
def t_worked_1 (K : PySem.W.Frag) : TS :=
  tSeq (tIfS (tTest (tOp rNe (tCall sp_kind_of [] E0 (tCons (tVar 1) tNil)) (tCall sp_kind_of [] E0 (tCons (tVar 2) tNil)))) (tRet (tC .non)) tNext) (t_worked_2 K)

/-- worked -/
def t_worked (K : PySem.W.Frag) : TS :=
  tSeq (tIfS (tTest (tOp rEq (tVar 0) (tC (.str (wd 6))))) (tRet (tCB rInt1 (tCons (tAndV (tOp rEq (tCall sp_kind_of [] E0 (tCons (tVar 1) tNil)) (tCall sp_kind_of [] E0 (tCons (tVar 2) tNil))) (tOp rEq (tVar 1) (tVar 2))) tNil))) tNext) (t_worked_1 K)

/-- _law_worked from 3 -/
def t_L_worked_3 (K : PySem.W.Frag) : TS :=
  (tSeq (tIfS (tB (tCB (rIs "str") (tCons (tVar 1) (tCons (tC (.ty "str")) tNil)))) (tRet (tCall sp_L_of_texts [] E0 (tCons (tVar 0) (tCons (tVar 1) (tCons (tVar 2) tNil))))) tNext)
    (tRet (tOp rXL (xLst (tCons (tOp (rI (fun _ j => 0 < j) fun i j => .int (i % j)) (tOp (rI0 fun i j => .int (i + j)) (tVar 1) (tVar 2)) (tC (.int 10007))) (tCons (tOp (rI (fun _ j => 0 < j) fun i j => .int (i % j)) (tOp (rI0 fun i j => .int (i - j)) (tVar 1) (tVar 2)) (tC (.int 10007))) (tCons (tCB rInt1 (tCons (tOp (rI0 fun i j => .bl (decide (i < j))) (tVar 1) (tVar 2)) tNil)) tNil)))) (tIndex (xLst (tCons (tC (.str (wd 3))) (tCons (tC (.str (wd 4))) (tCons (tC (.str (wd 5))) tNil)))) (tVar 0)))))

/-- _law_worked from 2 -/
def t_L_worked_2 (K : PySem.W.Frag) : TS :=
  tSeq (tIfS (tNot (tB (tVar 3))) (tRet (tC .non)) tNext) (t_L_worked_3 K)

/-- _law_worked from 1 -/
def t_L_worked_1 (K : PySem.W.Frag) : TS :=
  tSeq (tIfS (tTest (tOp rEq (tVar 0) (tC (.str (wd 6))))) (tRet (tCB rInt1 (tCons (tAndV (tVar 3) (tOp rEq (tVar 1) (tVar 2))) tNil))) tNext) (t_L_worked_2 K)

/-- _law_worked -/
def t_L_worked (K : PySem.W.Frag) : TS :=
  tSeq (tAsg (tOp rEq (tCB (rIs "str") (tCons (tVar 1) (tCons (tC (.ty "str")) tNil))) (tCB (rIs "str") (tCons (tVar 2) (tCons (tC (.ty "str")) tNil)))) (gName 3)) (t_L_worked_1 K)

/-- _law_is_so -/
def t_L_is_so (K : PySem.W.Frag) : TS :=
  (tRet (tOp (rInT true) (tVar 0) (xTup (tCons (tC (.int 0)) (tCons (tC (.str ("" : Str))) tNil)))))

/-- _law_value -/
def t_L_value (K : PySem.W.Frag) : TS :=
  (tSeq (tIfS (tTest (tOp rEq (tCall sp_L_take [] E0 (tCons (tVar 0) (tCons (tC (.int 3)) tNil))) (tC (.int 1)))) (tRet (tCall sp_L_text [] E0 (tCons (tVar 0) tNil))) tNext)
    (tRet (tOp rXL (xLst (tCons (tCall sp_L_take [] E0 (tCons (tVar 0) (tCons (tC (.int 4)) tNil))) (tCons (tCall sp_L_take [] E0 (tCons (tVar 0) (tCons (tC (.int 10007)) tNil))) tNil))) (tCall sp_L_take [] E0 (tCons (tVar 0) (tCons (tC (.int 2)) tNil))))))

/-- _law_alike from 6 -/
def t_L_alike_6 (K : PySem.W.Frag) (n : Nat) : TS :=
  (tSeq (tFor (iRng1 (tCons (tCB rLenQ (tCons (tVar 1) tNil)) tNil)) (gName 2)
    (tIfS (tNot (tB (tCall (sp_L_alike n) [] E0 (tCons (tOp rXQ (tVar 0) (tVar 2)) (tCons (tOp rXQ (tVar 1) (tVar 2)) tNil))))) (tRet (tC (.bl false))) tNext))
    (tRet (tC (.bl true))))

/-- _law_alike from 5 -/
def t_L_alike_5 (K : PySem.W.Frag) (n : Nat) : TS :=
  tSeq (tIfS (tTest (tOp rNe (tCB rLenQ (tCons (tVar 0) tNil)) (tCB rLenQ (tCons (tVar 1) tNil)))) (tRet (tC (.bl false))) tNext) (t_L_alike_6 K n)

/-- _law_alike from 4 -/
def t_L_alike_4 (K : PySem.W.Frag) (n : Nat) : TS :=
  tSeq (tIfS (tOr (tTest (tOp rNe (tCB (rIs "tuple") (tCons (tVar 1) (tCons (tC (.ty "tuple")) tNil))) (tCB (rIs "tuple") (tCons (tVar 0) (tCons (tC (.ty "tuple")) tNil))))) (tTest (tOp rNe (tCB (rIs "list") (tCons (tVar 1) (tCons (tC (.ty "list")) tNil))) (tCB (rIs "list") (tCons (tVar 0) (tCons (tC (.ty "list")) tNil)))))) (tRet (tC (.bl false))) tNext) (t_L_alike_5 K n)

/-- _law_alike from 3 -/
def t_L_alike_3 (K : PySem.W.Frag) (n : Nat) : TS :=
  tSeq (tIfS (tB (tCB (rIs "str") (tCons (tVar 1) (tCons (tC (.ty "str")) tNil)))) (tRet (tAndV (tCB (rIs "str") (tCons (tVar 0) (tCons (tC (.ty "str")) tNil))) (tOp rEq (tVar 0) (tVar 1)))) tNext) (t_L_alike_4 K n)

/-- _law_alike from 2 -/
def t_L_alike_2 (K : PySem.W.Frag) (n : Nat) : TS :=
  tSeq (tIfS (tB (tCB (rIs "int") (tCons (tVar 1) (tCons (tC (.ty "int")) tNil)))) (tRet (tAndV (tCB (rIs "int") (tCons (tVar 0) (tCons (tC (.ty "int")) tNil))) (tAndV (tNotV (tCB (rIs "bool") (tCons (tVar 0) (tCons (tC (.ty "bool")) tNil)))) (tOp rEq (tVar 0) (tVar 1))))) tNext) (t_L_alike_3 K n)

/-- _law_alike from 1 -/
def t_L_alike_1 (K : PySem.W.Frag) (n : Nat) : TS :=
  tSeq (tIfS (tB (tCB (rIs "bool") (tCons (tVar 1) (tCons (tC (.ty "bool")) tNil)))) (tRet (tAndV (tCB (rIs "bool") (tCons (tVar 0) (tCons (tC (.ty "bool")) tNil))) (tOp rEq (tVar 0) (tVar 1)))) tNext) (t_L_alike_2 K n)

/-- _law_alike -/
def t_L_alike (K : PySem.W.Frag) (n : Nat) : TS :=
  tSeq (tIfS (tTest (tOp rIsN (tVar 1) (tC .non))) (tRet (tOp rIsN (tVar 0) (tC .non))) tNext) (t_L_alike_1 K n)

/-! ### isinstance of values -/
theorem kitB_ss : kitB "str" "str" = some true := by decide +kernel
theorem kitB_is : kitB "int" "str" = some false := by decide +kernel
theorem is_str (x : Vl) (H : Hp) (Q : VK) : rIs "str" [x.v, .ty "str"] H Q ↔ Q (.bl (match x with | .n _ => false | .t _ => true)) H := by
  constructor
  · rintro ⟨y, b, e, ⟨n, hn, hk⟩, q⟩
    have e' := (List.cons.inj e).1
    subst e'
    cases x with
    | n i => cases (show n = "int" from hn); rw [kitB_is] at hk; cases hk; exact q
    | t z => cases (show n = "str" from hn); rw [kitB_ss] at hk; cases hk; exact q
  · intro q
    cases x with
    | n i => exact ⟨_, _, rfl, ⟨"int", rfl, kitB_is⟩, q⟩
    | t z => exact ⟨_, _, rfl, ⟨"str", rfl, kitB_ss⟩, q⟩
theorem rd_kind_of {K : PySem.W.Frag} {vs : List V} {H : Hp} {Q : VK} {E : XK} (h : sp_kind_of vs H Q E) : t_kind_of K { nx := fun _ H' => Q .non H', rt := Q } (start ["_"] vs) H := by
  obtain ⟨x, rfl, k⟩ := h
  show t_kind_of K _ [some x.v] H
  unfold t_kind_of
  refine st_seq ?_
  simp only [tIfS, tRet, tRetN, tAsg, gName, gSub, gCons, gNil, gTup, tDrop, tNext, tVar, tC, tOp, tUn, tTest, tB, tAnd, tOr, tNot, tAndV, tOrV, tNotV, tIf, tCons, tNil, xLst, xTup, xDic, tCB, tCall, tChain, tSl, tPart, tNoPart, rI, rI0, rU, rEq, rNe, scal, rXL, rXT, rXQ, rLenL, rLenT, rLenS, rLenQ, rInt1, rTupL, rLstL, rIsN, rNotN, rInT, rAddS, rLtS, rInS1, rNinS1, rIxS, rSlS, rStL, rCt, rSL, tApp, tPopAt, tPopL, tJoinL, tIndex, xFld, xSet, xMeth, xMake, rGetS, rGetI, rInDS, rInDI, xPutS, xPutI, xGet2S, xGet2I, xPopI, rDctD, rLstD, rCatT, HO.ins.injEq, ixN0, ixN1, ixN2, ixN3, atI0, atI1, atI2, atI3, eqV_str, eqV_int, eqV_is, eqV_si, inV_nil, inV_cons, flatV, List.all_cons, List.all_nil, wd_eq, wd_ne0, wd_ne0', List.getElem?_cons_zero, List.getElem?_cons_succ, List.set_cons_zero, List.set_cons_succ, List.cons_append, List.nil_append, List.append_nil, Nat.reduceAdd, Nat.reduceLT, Option.some.injEq, V.int.injEq, V.str.injEq, V.bl.injEq, V.ref.injEq, HO.lst.injEq, HO.tup.injEq, HO.dK.injEq, List.cons.injEq, exists_eq_left, exists_eq_left', exists_eq_right, exists_eq_right', exists_and_left, exists_and_right, exists_const, exists_eq, exists_eq', and_assoc, true_and, and_true, false_and, and_false, true_or, or_true, false_or, or_false, reduceCtorEq, not_true_eq_false, not_false_eq_true, decide_true, decide_false, decide_eq_true_eq, decide_not, Bool.not_true, Bool.not_false, Bool.false_eq_true, Bool.true_and, Bool.and_true, Bool.false_and, Bool.and_false, Bool.true_or, Bool.or_true, Bool.false_or, Bool.or_false, if_true, if_false, ite_true, ite_false, Nat.reduceEqDiff, exists_false, eq_self, upd_same, Bool.not_eq_true', decide_eq_false_iff_not, is_str]
  cases x with
  | n i => simp only [tIfS, tRet, tRetN, tAsg, gName, gSub, gCons, gNil, gTup, tDrop, tNext, tVar, tC, tOp, tUn, tTest, tB, tAnd, tOr, tNot, tAndV, tOrV, tNotV, tIf, tCons, tNil, xLst, xTup, xDic, tCB, tCall, tChain, tSl, tPart, tNoPart, rI, rI0, rU, rEq, rNe, scal, rXL, rXT, rXQ, rLenL, rLenT, rLenS, rLenQ, rInt1, rTupL, rLstL, rIsN, rNotN, rInT, rAddS, rLtS, rInS1, rNinS1, rIxS, rSlS, rStL, rCt, rSL, tApp, tPopAt, tPopL, tJoinL, tIndex, xFld, xSet, xMeth, xMake, rGetS, rGetI, rInDS, rInDI, xPutS, xPutI, xGet2S, xGet2I, xPopI, rDctD, rLstD, rCatT, HO.ins.injEq, ixN0, ixN1, ixN2, ixN3, atI0, atI1, atI2, atI3, eqV_str, eqV_int, eqV_is, eqV_si, inV_nil, inV_cons, flatV, List.all_cons, List.all_nil, wd_eq, wd_ne0, wd_ne0', List.getElem?_cons_zero, List.getElem?_cons_succ, List.set_cons_zero, List.set_cons_succ, List.cons_append, List.nil_append, List.append_nil, Nat.reduceAdd, Nat.reduceLT, Option.some.injEq, V.int.injEq, V.str.injEq, V.bl.injEq, V.ref.injEq, HO.lst.injEq, HO.tup.injEq, HO.dK.injEq, List.cons.injEq, exists_eq_left, exists_eq_left', exists_eq_right, exists_eq_right', exists_and_left, exists_and_right, exists_const, exists_eq, exists_eq', and_assoc, true_and, and_true, false_and, and_false, true_or, or_true, false_or, or_false, reduceCtorEq, not_true_eq_false, not_false_eq_true, decide_true, decide_false, decide_eq_true_eq, decide_not, Bool.not_true, Bool.not_false, Bool.false_eq_true, Bool.true_and, Bool.and_true, Bool.false_and, Bool.and_false, Bool.true_or, Bool.or_true, Bool.false_or, Bool.or_false, if_true, if_false, ite_true, ite_false, Nat.reduceEqDiff, exists_false, eq_self, upd_same, Bool.not_eq_true', decide_eq_false_iff_not]; exact k
  | t z => simp only [tIfS, tRet, tRetN, tAsg, gName, gSub, gCons, gNil, gTup, tDrop, tNext, tVar, tC, tOp, tUn, tTest, tB, tAnd, tOr, tNot, tAndV, tOrV, tNotV, tIf, tCons, tNil, xLst, xTup, xDic, tCB, tCall, tChain, tSl, tPart, tNoPart, rI, rI0, rU, rEq, rNe, scal, rXL, rXT, rXQ, rLenL, rLenT, rLenS, rLenQ, rInt1, rTupL, rLstL, rIsN, rNotN, rInT, rAddS, rLtS, rInS1, rNinS1, rIxS, rSlS, rStL, rCt, rSL, tApp, tPopAt, tPopL, tJoinL, tIndex, xFld, xSet, xMeth, xMake, rGetS, rGetI, rInDS, rInDI, xPutS, xPutI, xGet2S, xGet2I, xPopI, rDctD, rLstD, rCatT, HO.ins.injEq, ixN0, ixN1, ixN2, ixN3, atI0, atI1, atI2, atI3, eqV_str, eqV_int, eqV_is, eqV_si, inV_nil, inV_cons, flatV, List.all_cons, List.all_nil, wd_eq, wd_ne0, wd_ne0', List.getElem?_cons_zero, List.getElem?_cons_succ, List.set_cons_zero, List.set_cons_succ, List.cons_append, List.nil_append, List.append_nil, Nat.reduceAdd, Nat.reduceLT, Option.some.injEq, V.int.injEq, V.str.injEq, V.bl.injEq, V.ref.injEq, HO.lst.injEq, HO.tup.injEq, HO.dK.injEq, List.cons.injEq, exists_eq_left, exists_eq_left', exists_eq_right, exists_eq_right', exists_and_left, exists_and_right, exists_const, exists_eq, exists_eq', and_assoc, true_and, and_true, false_and, and_false, true_or, or_true, false_or, or_false, reduceCtorEq, not_true_eq_false, not_false_eq_true, decide_true, decide_false, decide_eq_true_eq, decide_not, Bool.not_true, Bool.not_false, Bool.false_eq_true, Bool.true_and, Bool.and_true, Bool.false_and, Bool.and_false, Bool.true_or, Bool.or_true, Bool.false_or, Bool.or_false, if_true, if_false, ite_true, ite_false, Nat.reduceEqDiff, exists_false, eq_self, upd_same, Bool.not_eq_true', decide_eq_false_iff_not]; exact k
theorem rd_is_so {K : PySem.W.Frag} {vs : List V} {H : Hp} {Q : VK} {E : XK} (h : sp_is_so vs H Q E) : t_is_so K { nx := fun _ H' => Q .non H', rt := Q } (start ["_"] vs) H := by
  obtain ⟨x, rfl, k⟩ := h
  show t_is_so K _ [some x.v] H
  unfold t_is_so
  have k0 := k H (.refl _ _)
  cases x with
  | n i =>
    simp only [tIfS, tRet, tRetN, tAsg, gName, gSub, gCons, gNil, gTup, tDrop, tNext, tVar, tC, tOp, tUn, tTest, tB, tAnd, tOr, tNot, tAndV, tOrV, tNotV, tIf, tCons, tNil, xLst, xTup, xDic, tCB, tCall, tChain, tSl, tPart, tNoPart, rI, rI0, rU, rEq, rNe, scal, rXL, rXT, rXQ, rLenL, rLenT, rLenS, rLenQ, rInt1, rTupL, rLstL, rIsN, rNotN, rInT, rAddS, rLtS, rInS1, rNinS1, rIxS, rSlS, rStL, rCt, rSL, tApp, tPopAt, tPopL, tJoinL, tIndex, xFld, xSet, xMeth, xMake, rGetS, rGetI, rInDS, rInDI, xPutS, xPutI, xGet2S, xGet2I, xPopI, rDctD, rLstD, rCatT, HO.ins.injEq, ixN0, ixN1, ixN2, ixN3, atI0, atI1, atI2, atI3, eqV_str, eqV_int, eqV_is, eqV_si, inV_nil, inV_cons, flatV, List.all_cons, List.all_nil, wd_eq, wd_ne0, wd_ne0', List.getElem?_cons_zero, List.getElem?_cons_succ, List.set_cons_zero, List.set_cons_succ, List.cons_append, List.nil_append, List.append_nil, Nat.reduceAdd, Nat.reduceLT, Option.some.injEq, V.int.injEq, V.str.injEq, V.bl.injEq, V.ref.injEq, HO.lst.injEq, HO.tup.injEq, HO.dK.injEq, List.cons.injEq, exists_eq_left, exists_eq_left', exists_eq_right, exists_eq_right', exists_and_left, exists_and_right, exists_const, exists_eq, exists_eq', and_assoc, true_and, and_true, false_and, and_false, true_or, or_true, false_or, or_false, reduceCtorEq, not_true_eq_false, not_false_eq_true, decide_true, decide_false, decide_eq_true_eq, decide_not, Bool.not_true, Bool.not_false, Bool.false_eq_true, Bool.true_and, Bool.and_true, Bool.false_and, Bool.and_false, Bool.true_or, Bool.or_true, Bool.false_or, Bool.or_false, if_true, if_false, ite_true, ite_false, Nat.reduceEqDiff, exists_false, eq_self, upd_same, Bool.not_eq_true', decide_eq_false_iff_not, Vl.v]
    simp only [Vl.so] at k0
    split
    · next h => rw [decide_eq_false h] at k0; exact k0
    · next h => rw [decide_eq_true (by simpa using h)] at k0; exact k0
  | t z => simp only [tIfS, tRet, tRetN, tAsg, gName, gSub, gCons, gNil, gTup, tDrop, tNext, tVar, tC, tOp, tUn, tTest, tB, tAnd, tOr, tNot, tAndV, tOrV, tNotV, tIf, tCons, tNil, xLst, xTup, xDic, tCB, tCall, tChain, tSl, tPart, tNoPart, rI, rI0, rU, rEq, rNe, scal, rXL, rXT, rXQ, rLenL, rLenT, rLenS, rLenQ, rInt1, rTupL, rLstL, rIsN, rNotN, rInT, rAddS, rLtS, rInS1, rNinS1, rIxS, rSlS, rStL, rCt, rSL, tApp, tPopAt, tPopL, tJoinL, tIndex, xFld, xSet, xMeth, xMake, rGetS, rGetI, rInDS, rInDI, xPutS, xPutI, xGet2S, xGet2I, xPopI, rDctD, rLstD, rCatT, HO.ins.injEq, ixN0, ixN1, ixN2, ixN3, atI0, atI1, atI2, atI3, eqV_str, eqV_int, eqV_is, eqV_si, inV_nil, inV_cons, flatV, List.all_cons, List.all_nil, wd_eq, wd_ne0, wd_ne0', List.getElem?_cons_zero, List.getElem?_cons_succ, List.set_cons_zero, List.set_cons_succ, List.cons_append, List.nil_append, List.append_nil, Nat.reduceAdd, Nat.reduceLT, Option.some.injEq, V.int.injEq, V.str.injEq, V.bl.injEq, V.ref.injEq, HO.lst.injEq, HO.tup.injEq, HO.dK.injEq, List.cons.injEq, exists_eq_left, exists_eq_left', exists_eq_right, exists_eq_right', exists_and_left, exists_and_right, exists_const, exists_eq, exists_eq', and_assoc, true_and, and_true, false_and, and_false, true_or, or_true, false_or, or_false, reduceCtorEq, not_true_eq_false, not_false_eq_true, decide_true, decide_false, decide_eq_true_eq, decide_not, Bool.not_true, Bool.not_false, Bool.false_eq_true, Bool.true_and, Bool.and_true, Bool.false_and, Bool.and_false, Bool.true_or, Bool.or_true, Bool.false_or, Bool.or_false, if_true, if_false, ite_true, ite_false, Nat.reduceEqDiff, exists_false, eq_self, upd_same, Bool.not_eq_true', decide_eq_false_iff_not, Vl.v]; exact k0
theorem rd_L_is_so {K : PySem.W.Frag} {vs : List V} {H : Hp} {Q : VK} {E : XK} (h : sp_L_is_so vs H Q E) : t_L_is_so K { nx := fun _ H' => Q .non H', rt := Q } (start ["_"] vs) H := by
  obtain ⟨x, rfl, k⟩ := h
  show t_L_is_so K _ [some x.v] H
  unfold t_L_is_so
  simp only [tIfS, tRet, tRetN, tAsg, gName, gSub, gCons, gNil, gTup, tDrop, tNext, tVar, tC, tOp, tUn, tTest, tB, tAnd, tOr, tNot, tAndV, tOrV, tNotV, tIf, tCons, tNil, xLst, xTup, xDic, tCB, tCall, tChain, tSl, tPart, tNoPart, rI, rI0, rU, rEq, rNe, scal, rXL, rXT, rXQ, rLenL, rLenT, rLenS, rLenQ, rInt1, rTupL, rLstL, rIsN, rNotN, rInT, rAddS, rLtS, rInS1, rNinS1, rIxS, rSlS, rStL, rCt, rSL, tApp, tPopAt, tPopL, tJoinL, tIndex, xFld, xSet, xMeth, xMake, rGetS, rGetI, rInDS, rInDI, xPutS, xPutI, xGet2S, xGet2I, xPopI, rDctD, rLstD, rCatT, HO.ins.injEq, ixN0, ixN1, ixN2, ixN3, atI0, atI1, atI2, atI3, eqV_str, eqV_int, eqV_is, eqV_si, inV_nil, inV_cons, flatV, List.all_cons, List.all_nil, wd_eq, wd_ne0, wd_ne0', List.getElem?_cons_zero, List.getElem?_cons_succ, List.set_cons_zero, List.set_cons_succ, List.cons_append, List.nil_append, List.append_nil, Nat.reduceAdd, Nat.reduceLT, Option.some.injEq, V.int.injEq, V.str.injEq, V.bl.injEq, V.ref.injEq, HO.lst.injEq, HO.tup.injEq, HO.dK.injEq, List.cons.injEq, exists_eq_left, exists_eq_left', exists_eq_right, exists_eq_right', exists_and_left, exists_and_right, exists_const, exists_eq, exists_eq', and_assoc, true_and, and_true, false_and, and_false, true_or, or_true, false_or, or_false, reduceCtorEq, not_true_eq_false, not_false_eq_true, decide_true, decide_false, decide_eq_true_eq, decide_not, Bool.not_true, Bool.not_false, Bool.false_eq_true, Bool.true_and, Bool.and_true, Bool.false_and, Bool.and_false, Bool.true_or, Bool.or_true, Bool.false_or, Bool.or_false, if_true, if_false, ite_true, ite_false, Nat.reduceEqDiff, exists_false, eq_self, upd_same, Bool.not_eq_true', decide_eq_false_iff_not]
  refine ⟨by decide, fun p H1 A => ?_⟩
  have k0 := k H1 A.fr
  cases x with
  | n i =>
    simp only [tIfS, tRet, tRetN, tAsg, gName, gSub, gCons, gNil, gTup, tDrop, tNext, tVar, tC, tOp, tUn, tTest, tB, tAnd, tOr, tNot, tAndV, tOrV, tNotV, tIf, tCons, tNil, xLst, xTup, xDic, tCB, tCall, tChain, tSl, tPart, tNoPart, rI, rI0, rU, rEq, rNe, scal, rXL, rXT, rXQ, rLenL, rLenT, rLenS, rLenQ, rInt1, rTupL, rLstL, rIsN, rNotN, rInT, rAddS, rLtS, rInS1, rNinS1, rIxS, rSlS, rStL, rCt, rSL, tApp, tPopAt, tPopL, tJoinL, tIndex, xFld, xSet, xMeth, xMake, rGetS, rGetI, rInDS, rInDI, xPutS, xPutI, xGet2S, xGet2I, xPopI, rDctD, rLstD, rCatT, HO.ins.injEq, ixN0, ixN1, ixN2, ixN3, atI0, atI1, atI2, atI3, eqV_str, eqV_int, eqV_is, eqV_si, inV_nil, inV_cons, flatV, List.all_cons, List.all_nil, wd_eq, wd_ne0, wd_ne0', List.getElem?_cons_zero, List.getElem?_cons_succ, List.set_cons_zero, List.set_cons_succ, List.cons_append, List.nil_append, List.append_nil, Nat.reduceAdd, Nat.reduceLT, Option.some.injEq, V.int.injEq, V.str.injEq, V.bl.injEq, V.ref.injEq, HO.lst.injEq, HO.tup.injEq, HO.dK.injEq, List.cons.injEq, exists_eq_left, exists_eq_left', exists_eq_right, exists_eq_right', exists_and_left, exists_and_right, exists_const, exists_eq, exists_eq', and_assoc, true_and, and_true, false_and, and_false, true_or, or_true, false_or, or_false, reduceCtorEq, not_true_eq_false, not_false_eq_true, decide_true, decide_false, decide_eq_true_eq, decide_not, Bool.not_true, Bool.not_false, Bool.false_eq_true, Bool.true_and, Bool.and_true, Bool.false_and, Bool.and_false, Bool.true_or, Bool.or_true, Bool.false_or, Bool.or_false, if_true, if_false, ite_true, ite_false, Nat.reduceEqDiff, exists_false, eq_self, upd_same, Bool.not_eq_true', decide_eq_false_iff_not, Vl.v, A.at_]
    simp only [Vl.so] at k0
    rw [show decide (0 = i) = decide (i = 0) from by simp [eq_comm]]
    exact k0
  | t z =>
    simp only [tIfS, tRet, tRetN, tAsg, gName, gSub, gCons, gNil, gTup, tDrop, tNext, tVar, tC, tOp, tUn, tTest, tB, tAnd, tOr, tNot, tAndV, tOrV, tNotV, tIf, tCons, tNil, xLst, xTup, xDic, tCB, tCall, tChain, tSl, tPart, tNoPart, rI, rI0, rU, rEq, rNe, scal, rXL, rXT, rXQ, rLenL, rLenT, rLenS, rLenQ, rInt1, rTupL, rLstL, rIsN, rNotN, rInT, rAddS, rLtS, rInS1, rNinS1, rIxS, rSlS, rStL, rCt, rSL, tApp, tPopAt, tPopL, tJoinL, tIndex, xFld, xSet, xMeth, xMake, rGetS, rGetI, rInDS, rInDI, xPutS, xPutI, xGet2S, xGet2I, xPopI, rDctD, rLstD, rCatT, HO.ins.injEq, ixN0, ixN1, ixN2, ixN3, atI0, atI1, atI2, atI3, eqV_str, eqV_int, eqV_is, eqV_si, inV_nil, inV_cons, flatV, List.all_cons, List.all_nil, wd_eq, wd_ne0, wd_ne0', List.getElem?_cons_zero, List.getElem?_cons_succ, List.set_cons_zero, List.set_cons_succ, List.cons_append, List.nil_append, List.append_nil, Nat.reduceAdd, Nat.reduceLT, Option.some.injEq, V.int.injEq, V.str.injEq, V.bl.injEq, V.ref.injEq, HO.lst.injEq, HO.tup.injEq, HO.dK.injEq, List.cons.injEq, exists_eq_left, exists_eq_left', exists_eq_right, exists_eq_right', exists_and_left, exists_and_right, exists_const, exists_eq, exists_eq', and_assoc, true_and, and_true, false_and, and_false, true_or, or_true, false_or, or_false, reduceCtorEq, not_true_eq_false, not_false_eq_true, decide_true, decide_false, decide_eq_true_eq, decide_not, Bool.not_true, Bool.not_false, Bool.false_eq_true, Bool.true_and, Bool.and_true, Bool.false_and, Bool.and_false, Bool.true_or, Bool.or_true, Bool.false_or, Bool.or_false, if_true, if_false, ite_true, ite_false, Nat.reduceEqDiff, exists_false, eq_self, upd_same, Bool.not_eq_true', decide_eq_false_iff_not, Vl.v, A.at_]
    simp only [Vl.so] at k0
    rw [show decide (("" : Str) = z) = decide (z = ("" : Str)) from by simp [eq_comm]]
    exact k0
theorem rd_of_numbers {K : PySem.W.Frag} {vs : List V} {H : Hp} {Q : VK} {E : XK} (h : sp_of_numbers vs H Q E) : t_of_numbers K { nx := fun _ H' => Q .non H', rt := Q } (start ["_", "_", "_"] vs) H := by
  obtain ⟨s, i, j, rfl, hs, k⟩ := h
  show t_of_numbers K _ [some (.str s.s), some (.int i), some (.int j)] H
  unfold t_of_numbers
  refine st_seq ?_
  cases s with
  | add => simp only [tIfS, tRet, tRetN, tAsg, gName, gSub, gCons, gNil, gTup, tDrop, tNext, tVar, tC, tOp, tUn, tTest, tB, tAnd, tOr, tNot, tAndV, tOrV, tNotV, tIf, tCons, tNil, xLst, xTup, xDic, tCB, tCall, tChain, tSl, tPart, tNoPart, rI, rI0, rU, rEq, rNe, scal, rXL, rXT, rXQ, rLenL, rLenT, rLenS, rLenQ, rInt1, rTupL, rLstL, rIsN, rNotN, rInT, rAddS, rLtS, rInS1, rNinS1, rIxS, rSlS, rStL, rCt, rSL, tApp, tPopAt, tPopL, tJoinL, tIndex, xFld, xSet, xMeth, xMake, rGetS, rGetI, rInDS, rInDI, xPutS, xPutI, xGet2S, xGet2I, xPopI, rDctD, rLstD, rCatT, HO.ins.injEq, ixN0, ixN1, ixN2, ixN3, atI0, atI1, atI2, atI3, eqV_str, eqV_int, eqV_is, eqV_si, inV_nil, inV_cons, flatV, List.all_cons, List.all_nil, wd_eq, wd_ne0, wd_ne0', List.getElem?_cons_zero, List.getElem?_cons_succ, List.set_cons_zero, List.set_cons_succ, List.cons_append, List.nil_append, List.append_nil, Nat.reduceAdd, Nat.reduceLT, Option.some.injEq, V.int.injEq, V.str.injEq, V.bl.injEq, V.ref.injEq, HO.lst.injEq, HO.tup.injEq, HO.dK.injEq, List.cons.injEq, exists_eq_left, exists_eq_left', exists_eq_right, exists_eq_right', exists_and_left, exists_and_right, exists_const, exists_eq, exists_eq', and_assoc, true_and, and_true, false_and, and_false, true_or, or_true, false_or, or_false, reduceCtorEq, not_true_eq_false, not_false_eq_true, decide_true, decide_false, decide_eq_true_eq, decide_not, Bool.not_true, Bool.not_false, Bool.false_eq_true, Bool.true_and, Bool.and_true, Bool.false_and, Bool.and_false, Bool.true_or, Bool.or_true, Bool.false_or, Bool.or_false, if_true, if_false, ite_true, ite_false, Nat.reduceEqDiff, exists_false, eq_self, upd_same, Bool.not_eq_true', decide_eq_false_iff_not, Sg.s, Sg.ix]; exact ⟨by decide, k⟩
  | sub => simp only [tIfS, tRet, tRetN, tAsg, gName, gSub, gCons, gNil, gTup, tDrop, tNext, tVar, tC, tOp, tUn, tTest, tB, tAnd, tOr, tNot, tAndV, tOrV, tNotV, tIf, tCons, tNil, xLst, xTup, xDic, tCB, tCall, tChain, tSl, tPart, tNoPart, rI, rI0, rU, rEq, rNe, scal, rXL, rXT, rXQ, rLenL, rLenT, rLenS, rLenQ, rInt1, rTupL, rLstL, rIsN, rNotN, rInT, rAddS, rLtS, rInS1, rNinS1, rIxS, rSlS, rStL, rCt, rSL, tApp, tPopAt, tPopL, tJoinL, tIndex, xFld, xSet, xMeth, xMake, rGetS, rGetI, rInDS, rInDI, xPutS, xPutI, xGet2S, xGet2I, xPopI, rDctD, rLstD, rCatT, HO.ins.injEq, ixN0, ixN1, ixN2, ixN3, atI0, atI1, atI2, atI3, eqV_str, eqV_int, eqV_is, eqV_si, inV_nil, inV_cons, flatV, List.all_cons, List.all_nil, wd_eq, wd_ne0, wd_ne0', List.getElem?_cons_zero, List.getElem?_cons_succ, List.set_cons_zero, List.set_cons_succ, List.cons_append, List.nil_append, List.append_nil, Nat.reduceAdd, Nat.reduceLT, Option.some.injEq, V.int.injEq, V.str.injEq, V.bl.injEq, V.ref.injEq, HO.lst.injEq, HO.tup.injEq, HO.dK.injEq, List.cons.injEq, exists_eq_left, exists_eq_left', exists_eq_right, exists_eq_right', exists_and_left, exists_and_right, exists_const, exists_eq, exists_eq', and_assoc, true_and, and_true, false_and, and_false, true_or, or_true, false_or, or_false, reduceCtorEq, not_true_eq_false, not_false_eq_true, decide_true, decide_false, decide_eq_true_eq, decide_not, Bool.not_true, Bool.not_false, Bool.false_eq_true, Bool.true_and, Bool.and_true, Bool.false_and, Bool.and_false, Bool.true_or, Bool.or_true, Bool.false_or, Bool.or_false, if_true, if_false, ite_true, ite_false, Nat.reduceEqDiff, exists_false, eq_self, upd_same, Bool.not_eq_true', decide_eq_false_iff_not, Sg.s, Sg.ix]; refine st_seq ?_; simp only [tIfS, tRet, tRetN, tAsg, gName, gSub, gCons, gNil, gTup, tDrop, tNext, tVar, tC, tOp, tUn, tTest, tB, tAnd, tOr, tNot, tAndV, tOrV, tNotV, tIf, tCons, tNil, xLst, xTup, xDic, tCB, tCall, tChain, tSl, tPart, tNoPart, rI, rI0, rU, rEq, rNe, scal, rXL, rXT, rXQ, rLenL, rLenT, rLenS, rLenQ, rInt1, rTupL, rLstL, rIsN, rNotN, rInT, rAddS, rLtS, rInS1, rNinS1, rIxS, rSlS, rStL, rCt, rSL, tApp, tPopAt, tPopL, tJoinL, tIndex, xFld, xSet, xMeth, xMake, rGetS, rGetI, rInDS, rInDI, xPutS, xPutI, xGet2S, xGet2I, xPopI, rDctD, rLstD, rCatT, HO.ins.injEq, ixN0, ixN1, ixN2, ixN3, atI0, atI1, atI2, atI3, eqV_str, eqV_int, eqV_is, eqV_si, inV_nil, inV_cons, flatV, List.all_cons, List.all_nil, wd_eq, wd_ne0, wd_ne0', List.getElem?_cons_zero, List.getElem?_cons_succ, List.set_cons_zero, List.set_cons_succ, List.cons_append, List.nil_append, List.append_nil, Nat.reduceAdd, Nat.reduceLT, Option.some.injEq, V.int.injEq, V.str.injEq, V.bl.injEq, V.ref.injEq, HO.lst.injEq, HO.tup.injEq, HO.dK.injEq, List.cons.injEq, exists_eq_left, exists_eq_left', exists_eq_right, exists_eq_right', exists_and_left, exists_and_right, exists_const, exists_eq, exists_eq', and_assoc, true_and, and_true, false_and, and_false, true_or, or_true, false_or, or_false, reduceCtorEq, not_true_eq_false, not_false_eq_true, decide_true, decide_false, decide_eq_true_eq, decide_not, Bool.not_true, Bool.not_false, Bool.false_eq_true, Bool.true_and, Bool.and_true, Bool.false_and, Bool.and_false, Bool.true_or, Bool.or_true, Bool.false_or, Bool.or_false, if_true, if_false, ite_true, ite_false, Nat.reduceEqDiff, exists_false, eq_self, upd_same, Bool.not_eq_true', decide_eq_false_iff_not, Sg.s, Sg.ix]; exact ⟨by decide, k⟩
  | less => simp only [tIfS, tRet, tRetN, tAsg, gName, gSub, gCons, gNil, gTup, tDrop, tNext, tVar, tC, tOp, tUn, tTest, tB, tAnd, tOr, tNot, tAndV, tOrV, tNotV, tIf, tCons, tNil, xLst, xTup, xDic, tCB, tCall, tChain, tSl, tPart, tNoPart, rI, rI0, rU, rEq, rNe, scal, rXL, rXT, rXQ, rLenL, rLenT, rLenS, rLenQ, rInt1, rTupL, rLstL, rIsN, rNotN, rInT, rAddS, rLtS, rInS1, rNinS1, rIxS, rSlS, rStL, rCt, rSL, tApp, tPopAt, tPopL, tJoinL, tIndex, xFld, xSet, xMeth, xMake, rGetS, rGetI, rInDS, rInDI, xPutS, xPutI, xGet2S, xGet2I, xPopI, rDctD, rLstD, rCatT, HO.ins.injEq, ixN0, ixN1, ixN2, ixN3, atI0, atI1, atI2, atI3, eqV_str, eqV_int, eqV_is, eqV_si, inV_nil, inV_cons, flatV, List.all_cons, List.all_nil, wd_eq, wd_ne0, wd_ne0', List.getElem?_cons_zero, List.getElem?_cons_succ, List.set_cons_zero, List.set_cons_succ, List.cons_append, List.nil_append, List.append_nil, Nat.reduceAdd, Nat.reduceLT, Option.some.injEq, V.int.injEq, V.str.injEq, V.bl.injEq, V.ref.injEq, HO.lst.injEq, HO.tup.injEq, HO.dK.injEq, List.cons.injEq, exists_eq_left, exists_eq_left', exists_eq_right, exists_eq_right', exists_and_left, exists_and_right, exists_const, exists_eq, exists_eq', and_assoc, true_and, and_true, false_and, and_false, true_or, or_true, false_or, or_false, reduceCtorEq, not_true_eq_false, not_false_eq_true, decide_true, decide_false, decide_eq_true_eq, decide_not, Bool.not_true, Bool.not_false, Bool.false_eq_true, Bool.true_and, Bool.and_true, Bool.false_and, Bool.and_false, Bool.true_or, Bool.or_true, Bool.false_or, Bool.or_false, if_true, if_false, ite_true, ite_false, Nat.reduceEqDiff, exists_false, eq_self, upd_same, Bool.not_eq_true', decide_eq_false_iff_not, Sg.s, Sg.ix]; refine st_seq ?_; simp only [tIfS, tRet, tRetN, tAsg, gName, gSub, gCons, gNil, gTup, tDrop, tNext, tVar, tC, tOp, tUn, tTest, tB, tAnd, tOr, tNot, tAndV, tOrV, tNotV, tIf, tCons, tNil, xLst, xTup, xDic, tCB, tCall, tChain, tSl, tPart, tNoPart, rI, rI0, rU, rEq, rNe, scal, rXL, rXT, rXQ, rLenL, rLenT, rLenS, rLenQ, rInt1, rTupL, rLstL, rIsN, rNotN, rInT, rAddS, rLtS, rInS1, rNinS1, rIxS, rSlS, rStL, rCt, rSL, tApp, tPopAt, tPopL, tJoinL, tIndex, xFld, xSet, xMeth, xMake, rGetS, rGetI, rInDS, rInDI, xPutS, xPutI, xGet2S, xGet2I, xPopI, rDctD, rLstD, rCatT, HO.ins.injEq, ixN0, ixN1, ixN2, ixN3, atI0, atI1, atI2, atI3, eqV_str, eqV_int, eqV_is, eqV_si, inV_nil, inV_cons, flatV, List.all_cons, List.all_nil, wd_eq, wd_ne0, wd_ne0', List.getElem?_cons_zero, List.getElem?_cons_succ, List.set_cons_zero, List.set_cons_succ, List.cons_append, List.nil_append, List.append_nil, Nat.reduceAdd, Nat.reduceLT, Option.some.injEq, V.int.injEq, V.str.injEq, V.bl.injEq, V.ref.injEq, HO.lst.injEq, HO.tup.injEq, HO.dK.injEq, List.cons.injEq, exists_eq_left, exists_eq_left', exists_eq_right, exists_eq_right', exists_and_left, exists_and_right, exists_const, exists_eq, exists_eq', and_assoc, true_and, and_true, false_and, and_false, true_or, or_true, false_or, or_false, reduceCtorEq, not_true_eq_false, not_false_eq_true, decide_true, decide_false, decide_eq_true_eq, decide_not, Bool.not_true, Bool.not_false, Bool.false_eq_true, Bool.true_and, Bool.and_true, Bool.false_and, Bool.and_false, Bool.true_or, Bool.or_true, Bool.false_or, Bool.or_false, if_true, if_false, ite_true, ite_false, Nat.reduceEqDiff, exists_false, eq_self, upd_same, Bool.not_eq_true', decide_eq_false_iff_not, Sg.s, Sg.ix]; simpa [ov, wk, Vl.v, b2n] using k
  | same => exact absurd rfl hs
theorem sg_eq (s : Sg) (i : Nat) (hi : i < 42) : (s.s = wd i) = (s.ix = i) := wd_eq (by cases s <;> decide) hi
theorem kd_eq (x y : Vl) : (x.kd = y.kd) = ((match x with | .n _ => true | .t _ => false) = (match y with | .n _ => true | .t _ => false)) := by
  cases x <;> cases y <;> simp only [Vl.kd] <;> first | (rw [wd_eq (by decide) (by decide)] <;> simp) | simp
theorem scal_v (x y : Vl) : scal x.v y.v = true := by cases x <;> cases y <;> rfl
theorem rd_worked {K : PySem.W.Frag} {vs : List V} {H : Hp} {Q : VK} {E : XK} (h : sp_worked vs H Q E) : t_worked K { nx := fun _ H' => Q .non H', rt := Q } (start ["_", "_", "_"] vs) H := by
  obtain ⟨s, x, y, rfl, hx, hy, k⟩ := h
  show t_worked K _ [some (.str s.s), some x.v, some y.v] H
  unfold t_worked
  refine st_seq ?_
  simp only [tIfS, tRet, tRetN, tAsg, gName, gSub, gCons, gNil, gTup, tDrop, tNext, tVar, tC, tOp, tUn, tTest, tB, tAnd, tOr, tNot, tAndV, tOrV, tNotV, tIf, tCons, tNil, xLst, xTup, xDic, tCB, tCall, tChain, tSl, tPart, tNoPart, rI, rI0, rU, rEq, rNe, scal, rXL, rXT, rXQ, rLenL, rLenT, rLenS, rLenQ, rInt1, rTupL, rLstL, rIsN, rNotN, rInT, rAddS, rLtS, rInS1, rNinS1, rIxS, rSlS, rStL, rCt, rSL, tApp, tPopAt, tPopL, tJoinL, tIndex, xFld, xSet, xMeth, xMake, rGetS, rGetI, rInDS, rInDI, xPutS, xPutI, xGet2S, xGet2I, xPopI, rDctD, rLstD, rCatT, HO.ins.injEq, ixN0, ixN1, ixN2, ixN3, atI0, atI1, atI2, atI3, eqV_str, eqV_int, eqV_is, eqV_si, inV_nil, inV_cons, flatV, List.all_cons, List.all_nil, wd_eq, wd_ne0, wd_ne0', List.getElem?_cons_zero, List.getElem?_cons_succ, List.set_cons_zero, List.set_cons_succ, List.cons_append, List.nil_append, List.append_nil, Nat.reduceAdd, Nat.reduceLT, Option.some.injEq, V.int.injEq, V.str.injEq, V.bl.injEq, V.ref.injEq, HO.lst.injEq, HO.tup.injEq, HO.dK.injEq, List.cons.injEq, exists_eq_left, exists_eq_left', exists_eq_right, exists_eq_right', exists_and_left, exists_and_right, exists_const, exists_eq, exists_eq', and_assoc, true_and, and_true, false_and, and_false, true_or, or_true, false_or, or_false, reduceCtorEq, not_true_eq_false, not_false_eq_true, decide_true, decide_false, decide_eq_true_eq, decide_not, Bool.not_true, Bool.not_false, Bool.false_eq_true, Bool.true_and, Bool.and_true, Bool.false_and, Bool.and_false, Bool.true_or, Bool.or_true, Bool.false_or, Bool.or_false, if_true, if_false, ite_true, ite_false, Nat.reduceEqDiff, exists_false, eq_self, upd_same, Bool.not_eq_true', decide_eq_false_iff_not, sg_eq]
  by_cases hs : s = .same
  · subst hs
    simp only [Sg.ix]
    simp only [tIfS, tRet, tRetN, tAsg, gName, gSub, gCons, gNil, gTup, tDrop, tNext, tVar, tC, tOp, tUn, tTest, tB, tAnd, tOr, tNot, tAndV, tOrV, tNotV, tIf, tCons, tNil, xLst, xTup, xDic, tCB, tCall, tChain, tSl, tPart, tNoPart, rI, rI0, rU, rEq, rNe, scal, rXL, rXT, rXQ, rLenL, rLenT, rLenS, rLenQ, rInt1, rTupL, rLstL, rIsN, rNotN, rInT, rAddS, rLtS, rInS1, rNinS1, rIxS, rSlS, rStL, rCt, rSL, tApp, tPopAt, tPopL, tJoinL, tIndex, xFld, xSet, xMeth, xMake, rGetS, rGetI, rInDS, rInDI, xPutS, xPutI, xGet2S, xGet2I, xPopI, rDctD, rLstD, rCatT, HO.ins.injEq, ixN0, ixN1, ixN2, ixN3, atI0, atI1, atI2, atI3, eqV_str, eqV_int, eqV_is, eqV_si, inV_nil, inV_cons, flatV, List.all_cons, List.all_nil, wd_eq, wd_ne0, wd_ne0', List.getElem?_cons_zero, List.getElem?_cons_succ, List.set_cons_zero, List.set_cons_succ, List.cons_append, List.nil_append, List.append_nil, Nat.reduceAdd, Nat.reduceLT, Option.some.injEq, V.int.injEq, V.str.injEq, V.bl.injEq, V.ref.injEq, HO.lst.injEq, HO.tup.injEq, HO.dK.injEq, List.cons.injEq, exists_eq_left, exists_eq_left', exists_eq_right, exists_eq_right', exists_and_left, exists_and_right, exists_const, exists_eq, exists_eq', and_assoc, true_and, and_true, false_and, and_false, true_or, or_true, false_or, or_false, reduceCtorEq, not_true_eq_false, not_false_eq_true, decide_true, decide_false, decide_eq_true_eq, decide_not, Bool.not_true, Bool.not_false, Bool.false_eq_true, Bool.true_and, Bool.and_true, Bool.false_and, Bool.and_false, Bool.true_or, Bool.or_true, Bool.false_or, Bool.or_false, if_true, if_false, ite_true, ite_false, Nat.reduceEqDiff, exists_false, eq_self, upd_same, Bool.not_eq_true', decide_eq_false_iff_not]
    refine ⟨x, rfl, y, rfl, ?_⟩
    simp only [tIfS, tRet, tRetN, tAsg, gName, gSub, gCons, gNil, gTup, tDrop, tNext, tVar, tC, tOp, tUn, tTest, tB, tAnd, tOr, tNot, tAndV, tOrV, tNotV, tIf, tCons, tNil, xLst, xTup, xDic, tCB, tCall, tChain, tSl, tPart, tNoPart, rI, rI0, rU, rEq, rNe, scal, rXL, rXT, rXQ, rLenL, rLenT, rLenS, rLenQ, rInt1, rTupL, rLstL, rIsN, rNotN, rInT, rAddS, rLtS, rInS1, rNinS1, rIxS, rSlS, rStL, rCt, rSL, tApp, tPopAt, tPopL, tJoinL, tIndex, xFld, xSet, xMeth, xMake, rGetS, rGetI, rInDS, rInDI, xPutS, xPutI, xGet2S, xGet2I, xPopI, rDctD, rLstD, rCatT, HO.ins.injEq, ixN0, ixN1, ixN2, ixN3, atI0, atI1, atI2, atI3, eqV_str, eqV_int, eqV_is, eqV_si, inV_nil, inV_cons, flatV, List.all_cons, List.all_nil, wd_eq, wd_ne0, wd_ne0', List.getElem?_cons_zero, List.getElem?_cons_succ, List.set_cons_zero, List.set_cons_succ, List.cons_append, List.nil_append, List.append_nil, Nat.reduceAdd, Nat.reduceLT, Option.some.injEq, V.int.injEq, V.str.injEq, V.bl.injEq, V.ref.injEq, HO.lst.injEq, HO.tup.injEq, HO.dK.injEq, List.cons.injEq, exists_eq_left, exists_eq_left', exists_eq_right, exists_eq_right', exists_and_left, exists_and_right, exists_const, exists_eq, exists_eq', and_assoc, true_and, and_true, false_and, and_false, true_or, or_true, false_or, or_false, reduceCtorEq, not_true_eq_false, not_false_eq_true, decide_true, decide_false, decide_eq_true_eq, decide_not, Bool.not_true, Bool.not_false, Bool.false_eq_true, Bool.true_and, Bool.and_true, Bool.false_and, Bool.and_false, Bool.true_or, Bool.or_true, Bool.false_or, Bool.or_false, if_true, if_false, ite_true, ite_false, Nat.reduceEqDiff, exists_false, eq_self, upd_same, Bool.not_eq_true', decide_eq_false_iff_not, scal_v, kd_eq, Vl.v_inj]
    have k0 := k H (.refl _ _)
    cases x <;> cases y <;> simp_all [ov, wk, b2n, Vl.v]
  · have e : ¬ s.ix = 6 := by cases s <;> simp_all [Sg.ix]
    rw [if_neg e]
    refine st_seq ?_
    simp only [tIfS, tRet, tRetN, tAsg, gName, gSub, gCons, gNil, gTup, tDrop, tNext, tVar, tC, tOp, tUn, tTest, tB, tAnd, tOr, tNot, tAndV, tOrV, tNotV, tIf, tCons, tNil, xLst, xTup, xDic, tCB, tCall, tChain, tSl, tPart, tNoPart, rI, rI0, rU, rEq, rNe, scal, rXL, rXT, rXQ, rLenL, rLenT, rLenS, rLenQ, rInt1, rTupL, rLstL, rIsN, rNotN, rInT, rAddS, rLtS, rInS1, rNinS1, rIxS, rSlS, rStL, rCt, rSL, tApp, tPopAt, tPopL, tJoinL, tIndex, xFld, xSet, xMeth, xMake, rGetS, rGetI, rInDS, rInDI, xPutS, xPutI, xGet2S, xGet2I, xPopI, rDctD, rLstD, rCatT, HO.ins.injEq, ixN0, ixN1, ixN2, ixN3, atI0, atI1, atI2, atI3, eqV_str, eqV_int, eqV_is, eqV_si, inV_nil, inV_cons, flatV, List.all_cons, List.all_nil, wd_eq, wd_ne0, wd_ne0', List.getElem?_cons_zero, List.getElem?_cons_succ, List.set_cons_zero, List.set_cons_succ, List.cons_append, List.nil_append, List.append_nil, Nat.reduceAdd, Nat.reduceLT, Option.some.injEq, V.int.injEq, V.str.injEq, V.bl.injEq, V.ref.injEq, HO.lst.injEq, HO.tup.injEq, HO.dK.injEq, List.cons.injEq, exists_eq_left, exists_eq_left', exists_eq_right, exists_eq_right', exists_and_left, exists_and_right, exists_const, exists_eq, exists_eq', and_assoc, true_and, and_true, false_and, and_false, true_or, or_true, false_or, or_false, reduceCtorEq, not_true_eq_false, not_false_eq_true, decide_true, decide_false, decide_eq_true_eq, decide_not, Bool.not_true, Bool.not_false, Bool.false_eq_true, Bool.true_and, Bool.and_true, Bool.false_and, Bool.and_false, Bool.true_or, Bool.or_true, Bool.false_or, Bool.or_false, if_true, if_false, ite_true, ite_false, Nat.reduceEqDiff, exists_false, eq_self, upd_same, Bool.not_eq_true', decide_eq_false_iff_not]
    refine ⟨x, rfl, y, rfl, ?_⟩
    simp only [tIfS, tRet, tRetN, tAsg, gName, gSub, gCons, gNil, gTup, tDrop, tNext, tVar, tC, tOp, tUn, tTest, tB, tAnd, tOr, tNot, tAndV, tOrV, tNotV, tIf, tCons, tNil, xLst, xTup, xDic, tCB, tCall, tChain, tSl, tPart, tNoPart, rI, rI0, rU, rEq, rNe, scal, rXL, rXT, rXQ, rLenL, rLenT, rLenS, rLenQ, rInt1, rTupL, rLstL, rIsN, rNotN, rInT, rAddS, rLtS, rInS1, rNinS1, rIxS, rSlS, rStL, rCt, rSL, tApp, tPopAt, tPopL, tJoinL, tIndex, xFld, xSet, xMeth, xMake, rGetS, rGetI, rInDS, rInDI, xPutS, xPutI, xGet2S, xGet2I, xPopI, rDctD, rLstD, rCatT, HO.ins.injEq, ixN0, ixN1, ixN2, ixN3, atI0, atI1, atI2, atI3, eqV_str, eqV_int, eqV_is, eqV_si, inV_nil, inV_cons, flatV, List.all_cons, List.all_nil, wd_eq, wd_ne0, wd_ne0', List.getElem?_cons_zero, List.getElem?_cons_succ, List.set_cons_zero, List.set_cons_succ, List.cons_append, List.nil_append, List.append_nil, Nat.reduceAdd, Nat.reduceLT, Option.some.injEq, V.int.injEq, V.str.injEq, V.bl.injEq, V.ref.injEq, HO.lst.injEq, HO.tup.injEq, HO.dK.injEq, List.cons.injEq, exists_eq_left, exists_eq_left', exists_eq_right, exists_eq_right', exists_and_left, exists_and_right, exists_const, exists_eq, exists_eq', and_assoc, true_and, and_true, false_and, and_false, true_or, or_true, false_or, or_false, reduceCtorEq, not_true_eq_false, not_false_eq_true, decide_true, decide_false, decide_eq_true_eq, decide_not, Bool.not_true, Bool.not_false, Bool.false_eq_true, Bool.true_and, Bool.and_true, Bool.false_and, Bool.and_false, Bool.true_or, Bool.or_true, Bool.false_or, Bool.or_false, if_true, if_false, ite_true, ite_false, Nat.reduceEqDiff, exists_false, eq_self, upd_same, Bool.not_eq_true', decide_eq_false_iff_not, kd_eq]
    cases x with
    | n i =>
      cases y with
      | n j =>
        simp only [tIfS, tRet, tRetN, tAsg, gName, gSub, gCons, gNil, gTup, tDrop, tNext, tVar, tC, tOp, tUn, tTest, tB, tAnd, tOr, tNot, tAndV, tOrV, tNotV, tIf, tCons, tNil, xLst, xTup, xDic, tCB, tCall, tChain, tSl, tPart, tNoPart, rI, rI0, rU, rEq, rNe, scal, rXL, rXT, rXQ, rLenL, rLenT, rLenS, rLenQ, rInt1, rTupL, rLstL, rIsN, rNotN, rInT, rAddS, rLtS, rInS1, rNinS1, rIxS, rSlS, rStL, rCt, rSL, tApp, tPopAt, tPopL, tJoinL, tIndex, xFld, xSet, xMeth, xMake, rGetS, rGetI, rInDS, rInDI, xPutS, xPutI, xGet2S, xGet2I, xPopI, rDctD, rLstD, rCatT, HO.ins.injEq, ixN0, ixN1, ixN2, ixN3, atI0, atI1, atI2, atI3, eqV_str, eqV_int, eqV_is, eqV_si, inV_nil, inV_cons, flatV, List.all_cons, List.all_nil, wd_eq, wd_ne0, wd_ne0', List.getElem?_cons_zero, List.getElem?_cons_succ, List.set_cons_zero, List.set_cons_succ, List.cons_append, List.nil_append, List.append_nil, Nat.reduceAdd, Nat.reduceLT, Option.some.injEq, V.int.injEq, V.str.injEq, V.bl.injEq, V.ref.injEq, HO.lst.injEq, HO.tup.injEq, HO.dK.injEq, List.cons.injEq, exists_eq_left, exists_eq_left', exists_eq_right, exists_eq_right', exists_and_left, exists_and_right, exists_const, exists_eq, exists_eq', and_assoc, true_and, and_true, false_and, and_false, true_or, or_true, false_or, or_false, reduceCtorEq, not_true_eq_false, not_false_eq_true, decide_true, decide_false, decide_eq_true_eq, decide_not, Bool.not_true, Bool.not_false, Bool.false_eq_true, Bool.true_and, Bool.and_true, Bool.false_and, Bool.and_false, Bool.true_or, Bool.or_true, Bool.false_or, Bool.or_false, if_true, if_false, ite_true, ite_false, Nat.reduceEqDiff, exists_false, eq_self, upd_same, Bool.not_eq_true', decide_eq_false_iff_not]
        refine st_seq ?_
        simp only [tIfS, tRet, tRetN, tAsg, gName, gSub, gCons, gNil, gTup, tDrop, tNext, tVar, tC, tOp, tUn, tTest, tB, tAnd, tOr, tNot, tAndV, tOrV, tNotV, tIf, tCons, tNil, xLst, xTup, xDic, tCB, tCall, tChain, tSl, tPart, tNoPart, rI, rI0, rU, rEq, rNe, scal, rXL, rXT, rXQ, rLenL, rLenT, rLenS, rLenQ, rInt1, rTupL, rLstL, rIsN, rNotN, rInT, rAddS, rLtS, rInS1, rNinS1, rIxS, rSlS, rStL, rCt, rSL, tApp, tPopAt, tPopL, tJoinL, tIndex, xFld, xSet, xMeth, xMake, rGetS, rGetI, rInDS, rInDI, xPutS, xPutI, xGet2S, xGet2I, xPopI, rDctD, rLstD, rCatT, HO.ins.injEq, ixN0, ixN1, ixN2, ixN3, atI0, atI1, atI2, atI3, eqV_str, eqV_int, eqV_is, eqV_si, inV_nil, inV_cons, flatV, List.all_cons, List.all_nil, wd_eq, wd_ne0, wd_ne0', List.getElem?_cons_zero, List.getElem?_cons_succ, List.set_cons_zero, List.set_cons_succ, List.cons_append, List.nil_append, List.append_nil, Nat.reduceAdd, Nat.reduceLT, Option.some.injEq, V.int.injEq, V.str.injEq, V.bl.injEq, V.ref.injEq, HO.lst.injEq, HO.tup.injEq, HO.dK.injEq, List.cons.injEq, exists_eq_left, exists_eq_left', exists_eq_right, exists_eq_right', exists_and_left, exists_and_right, exists_const, exists_eq, exists_eq', and_assoc, true_and, and_true, false_and, and_false, true_or, or_true, false_or, or_false, reduceCtorEq, not_true_eq_false, not_false_eq_true, decide_true, decide_false, decide_eq_true_eq, decide_not, Bool.not_true, Bool.not_false, Bool.false_eq_true, Bool.true_and, Bool.and_true, Bool.false_and, Bool.and_false, Bool.true_or, Bool.or_true, Bool.false_or, Bool.or_false, if_true, if_false, ite_true, ite_false, Nat.reduceEqDiff, exists_false, eq_self, upd_same, Bool.not_eq_true', decide_eq_false_iff_not]
        refine ⟨.n i, rfl, ?_⟩
        simp only [tIfS, tRet, tRetN, tAsg, gName, gSub, gCons, gNil, gTup, tDrop, tNext, tVar, tC, tOp, tUn, tTest, tB, tAnd, tOr, tNot, tAndV, tOrV, tNotV, tIf, tCons, tNil, xLst, xTup, xDic, tCB, tCall, tChain, tSl, tPart, tNoPart, rI, rI0, rU, rEq, rNe, scal, rXL, rXT, rXQ, rLenL, rLenT, rLenS, rLenQ, rInt1, rTupL, rLstL, rIsN, rNotN, rInT, rAddS, rLtS, rInS1, rNinS1, rIxS, rSlS, rStL, rCt, rSL, tApp, tPopAt, tPopL, tJoinL, tIndex, xFld, xSet, xMeth, xMake, rGetS, rGetI, rInDS, rInDI, xPutS, xPutI, xGet2S, xGet2I, xPopI, rDctD, rLstD, rCatT, HO.ins.injEq, ixN0, ixN1, ixN2, ixN3, atI0, atI1, atI2, atI3, eqV_str, eqV_int, eqV_is, eqV_si, inV_nil, inV_cons, flatV, List.all_cons, List.all_nil, wd_eq, wd_ne0, wd_ne0', List.getElem?_cons_zero, List.getElem?_cons_succ, List.set_cons_zero, List.set_cons_succ, List.cons_append, List.nil_append, List.append_nil, Nat.reduceAdd, Nat.reduceLT, Option.some.injEq, V.int.injEq, V.str.injEq, V.bl.injEq, V.ref.injEq, HO.lst.injEq, HO.tup.injEq, HO.dK.injEq, List.cons.injEq, exists_eq_left, exists_eq_left', exists_eq_right, exists_eq_right', exists_and_left, exists_and_right, exists_const, exists_eq, exists_eq', and_assoc, true_and, and_true, false_and, and_false, true_or, or_true, false_or, or_false, reduceCtorEq, not_true_eq_false, not_false_eq_true, decide_true, decide_false, decide_eq_true_eq, decide_not, Bool.not_true, Bool.not_false, Bool.false_eq_true, Bool.true_and, Bool.and_true, Bool.false_and, Bool.and_false, Bool.true_or, Bool.or_true, Bool.false_or, Bool.or_false, if_true, if_false, ite_true, ite_false, Nat.reduceEqDiff, exists_false, eq_self, upd_same, Bool.not_eq_true', decide_eq_false_iff_not, Vl.kd]
        exact ⟨s, i, j, rfl, hs, k H (.refl _ _)⟩
      | t b =>
        simp only [tIfS, tRet, tRetN, tAsg, gName, gSub, gCons, gNil, gTup, tDrop, tNext, tVar, tC, tOp, tUn, tTest, tB, tAnd, tOr, tNot, tAndV, tOrV, tNotV, tIf, tCons, tNil, xLst, xTup, xDic, tCB, tCall, tChain, tSl, tPart, tNoPart, rI, rI0, rU, rEq, rNe, scal, rXL, rXT, rXQ, rLenL, rLenT, rLenS, rLenQ, rInt1, rTupL, rLstL, rIsN, rNotN, rInT, rAddS, rLtS, rInS1, rNinS1, rIxS, rSlS, rStL, rCt, rSL, tApp, tPopAt, tPopL, tJoinL, tIndex, xFld, xSet, xMeth, xMake, rGetS, rGetI, rInDS, rInDI, xPutS, xPutI, xGet2S, xGet2I, xPopI, rDctD, rLstD, rCatT, HO.ins.injEq, ixN0, ixN1, ixN2, ixN3, atI0, atI1, atI2, atI3, eqV_str, eqV_int, eqV_is, eqV_si, inV_nil, inV_cons, flatV, List.all_cons, List.all_nil, wd_eq, wd_ne0, wd_ne0', List.getElem?_cons_zero, List.getElem?_cons_succ, List.set_cons_zero, List.set_cons_succ, List.cons_append, List.nil_append, List.append_nil, Nat.reduceAdd, Nat.reduceLT, Option.some.injEq, V.int.injEq, V.str.injEq, V.bl.injEq, V.ref.injEq, HO.lst.injEq, HO.tup.injEq, HO.dK.injEq, List.cons.injEq, exists_eq_left, exists_eq_left', exists_eq_right, exists_eq_right', exists_and_left, exists_and_right, exists_const, exists_eq, exists_eq', and_assoc, true_and, and_true, false_and, and_false, true_or, or_true, false_or, or_false, reduceCtorEq, not_true_eq_false, not_false_eq_true, decide_true, decide_false, decide_eq_true_eq, decide_not, Bool.not_true, Bool.not_false, Bool.false_eq_true, Bool.true_and, Bool.and_true, Bool.false_and, Bool.and_false, Bool.true_or, Bool.or_true, Bool.false_or, Bool.or_false, if_true, if_false, ite_true, ite_false, Nat.reduceEqDiff, exists_false, eq_self, upd_same, Bool.not_eq_true', decide_eq_false_iff_not]
        have k0 := k H (.refl _ _)
        cases s <;> first | exact absurd rfl hs | exact k0
    | t a =>
      cases y with
      | n j =>
        simp only [tIfS, tRet, tRetN, tAsg, gName, gSub, gCons, gNil, gTup, tDrop, tNext, tVar, tC, tOp, tUn, tTest, tB, tAnd, tOr, tNot, tAndV, tOrV, tNotV, tIf, tCons, tNil, xLst, xTup, xDic, tCB, tCall, tChain, tSl, tPart, tNoPart, rI, rI0, rU, rEq, rNe, scal, rXL, rXT, rXQ, rLenL, rLenT, rLenS, rLenQ, rInt1, rTupL, rLstL, rIsN, rNotN, rInT, rAddS, rLtS, rInS1, rNinS1, rIxS, rSlS, rStL, rCt, rSL, tApp, tPopAt, tPopL, tJoinL, tIndex, xFld, xSet, xMeth, xMake, rGetS, rGetI, rInDS, rInDI, xPutS, xPutI, xGet2S, xGet2I, xPopI, rDctD, rLstD, rCatT, HO.ins.injEq, ixN0, ixN1, ixN2, ixN3, atI0, atI1, atI2, atI3, eqV_str, eqV_int, eqV_is, eqV_si, inV_nil, inV_cons, flatV, List.all_cons, List.all_nil, wd_eq, wd_ne0, wd_ne0', List.getElem?_cons_zero, List.getElem?_cons_succ, List.set_cons_zero, List.set_cons_succ, List.cons_append, List.nil_append, List.append_nil, Nat.reduceAdd, Nat.reduceLT, Option.some.injEq, V.int.injEq, V.str.injEq, V.bl.injEq, V.ref.injEq, HO.lst.injEq, HO.tup.injEq, HO.dK.injEq, List.cons.injEq, exists_eq_left, exists_eq_left', exists_eq_right, exists_eq_right', exists_and_left, exists_and_right, exists_const, exists_eq, exists_eq', and_assoc, true_and, and_true, false_and, and_false, true_or, or_true, false_or, or_false, reduceCtorEq, not_true_eq_false, not_false_eq_true, decide_true, decide_false, decide_eq_true_eq, decide_not, Bool.not_true, Bool.not_false, Bool.false_eq_true, Bool.true_and, Bool.and_true, Bool.false_and, Bool.and_false, Bool.true_or, Bool.or_true, Bool.false_or, Bool.or_false, if_true, if_false, ite_true, ite_false, Nat.reduceEqDiff, exists_false, eq_self, upd_same, Bool.not_eq_true', decide_eq_false_iff_not]
        have k0 := k H (.refl _ _)
        cases s <;> first | exact absurd rfl hs | exact k0
      | t b =>
        simp only [tIfS, tRet, tRetN, tAsg, gName, gSub, gCons, gNil, gTup, tDrop, tNext, tVar, tC, tOp, tUn, tTest, tB, tAnd, tOr, tNot, tAndV, tOrV, tNotV, tIf, tCons, tNil, xLst, xTup, xDic, tCB, tCall, tChain, tSl, tPart, tNoPart, rI, rI0, rU, rEq, rNe, scal, rXL, rXT, rXQ, rLenL, rLenT, rLenS, rLenQ, rInt1, rTupL, rLstL, rIsN, rNotN, rInT, rAddS, rLtS, rInS1, rNinS1, rIxS, rSlS, rStL, rCt, rSL, tApp, tPopAt, tPopL, tJoinL, tIndex, xFld, xSet, xMeth, xMake, rGetS, rGetI, rInDS, rInDI, xPutS, xPutI, xGet2S, xGet2I, xPopI, rDctD, rLstD, rCatT, HO.ins.injEq, ixN0, ixN1, ixN2, ixN3, atI0, atI1, atI2, atI3, eqV_str, eqV_int, eqV_is, eqV_si, inV_nil, inV_cons, flatV, List.all_cons, List.all_nil, wd_eq, wd_ne0, wd_ne0', List.getElem?_cons_zero, List.getElem?_cons_succ, List.set_cons_zero, List.set_cons_succ, List.cons_append, List.nil_append, List.append_nil, Nat.reduceAdd, Nat.reduceLT, Option.some.injEq, V.int.injEq, V.str.injEq, V.bl.injEq, V.ref.injEq, HO.lst.injEq, HO.tup.injEq, HO.dK.injEq, List.cons.injEq, exists_eq_left, exists_eq_left', exists_eq_right, exists_eq_right', exists_and_left, exists_and_right, exists_const, exists_eq, exists_eq', and_assoc, true_and, and_true, false_and, and_false, true_or, or_true, false_or, or_false, reduceCtorEq, not_true_eq_false, not_false_eq_true, decide_true, decide_false, decide_eq_true_eq, decide_not, Bool.not_true, Bool.not_false, Bool.false_eq_true, Bool.true_and, Bool.and_true, Bool.false_and, Bool.and_false, Bool.true_or, Bool.or_true, Bool.false_or, Bool.or_false, if_true, if_false, ite_true, ite_false, Nat.reduceEqDiff, exists_false, eq_self, upd_same, Bool.not_eq_true', decide_eq_false_iff_not]
        refine st_seq ?_
        simp only [tIfS, tRet, tRetN, tAsg, gName, gSub, gCons, gNil, gTup, tDrop, tNext, tVar, tC, tOp, tUn, tTest, tB, tAnd, tOr, tNot, tAndV, tOrV, tNotV, tIf, tCons, tNil, xLst, xTup, xDic, tCB, tCall, tChain, tSl, tPart, tNoPart, rI, rI0, rU, rEq, rNe, scal, rXL, rXT, rXQ, rLenL, rLenT, rLenS, rLenQ, rInt1, rTupL, rLstL, rIsN, rNotN, rInT, rAddS, rLtS, rInS1, rNinS1, rIxS, rSlS, rStL, rCt, rSL, tApp, tPopAt, tPopL, tJoinL, tIndex, xFld, xSet, xMeth, xMake, rGetS, rGetI, rInDS, rInDI, xPutS, xPutI, xGet2S, xGet2I, xPopI, rDctD, rLstD, rCatT, HO.ins.injEq, ixN0, ixN1, ixN2, ixN3, atI0, atI1, atI2, atI3, eqV_str, eqV_int, eqV_is, eqV_si, inV_nil, inV_cons, flatV, List.all_cons, List.all_nil, wd_eq, wd_ne0, wd_ne0', List.getElem?_cons_zero, List.getElem?_cons_succ, List.set_cons_zero, List.set_cons_succ, List.cons_append, List.nil_append, List.append_nil, Nat.reduceAdd, Nat.reduceLT, Option.some.injEq, V.int.injEq, V.str.injEq, V.bl.injEq, V.ref.injEq, HO.lst.injEq, HO.tup.injEq, HO.dK.injEq, List.cons.injEq, exists_eq_left, exists_eq_left', exists_eq_right, exists_eq_right', exists_and_left, exists_and_right, exists_const, exists_eq, exists_eq', and_assoc, true_and, and_true, false_and, and_false, true_or, or_true, false_or, or_false, reduceCtorEq, not_true_eq_false, not_false_eq_true, decide_true, decide_false, decide_eq_true_eq, decide_not, Bool.not_true, Bool.not_false, Bool.false_eq_true, Bool.true_and, Bool.and_true, Bool.false_and, Bool.and_false, Bool.true_or, Bool.or_true, Bool.false_or, Bool.or_false, if_true, if_false, ite_true, ite_false, Nat.reduceEqDiff, exists_false, eq_self, upd_same, Bool.not_eq_true', decide_eq_false_iff_not]
        refine ⟨.t a, rfl, ?_⟩
        simp only [tIfS, tRet, tRetN, tAsg, gName, gSub, gCons, gNil, gTup, tDrop, tNext, tVar, tC, tOp, tUn, tTest, tB, tAnd, tOr, tNot, tAndV, tOrV, tNotV, tIf, tCons, tNil, xLst, xTup, xDic, tCB, tCall, tChain, tSl, tPart, tNoPart, rI, rI0, rU, rEq, rNe, scal, rXL, rXT, rXQ, rLenL, rLenT, rLenS, rLenQ, rInt1, rTupL, rLstL, rIsN, rNotN, rInT, rAddS, rLtS, rInS1, rNinS1, rIxS, rSlS, rStL, rCt, rSL, tApp, tPopAt, tPopL, tJoinL, tIndex, xFld, xSet, xMeth, xMake, rGetS, rGetI, rInDS, rInDI, xPutS, xPutI, xGet2S, xGet2I, xPopI, rDctD, rLstD, rCatT, HO.ins.injEq, ixN0, ixN1, ixN2, ixN3, atI0, atI1, atI2, atI3, eqV_str, eqV_int, eqV_is, eqV_si, inV_nil, inV_cons, flatV, List.all_cons, List.all_nil, wd_eq, wd_ne0, wd_ne0', List.getElem?_cons_zero, List.getElem?_cons_succ, List.set_cons_zero, List.set_cons_succ, List.cons_append, List.nil_append, List.append_nil, Nat.reduceAdd, Nat.reduceLT, Option.some.injEq, V.int.injEq, V.str.injEq, V.bl.injEq, V.ref.injEq, HO.lst.injEq, HO.tup.injEq, HO.dK.injEq, List.cons.injEq, exists_eq_left, exists_eq_left', exists_eq_right, exists_eq_right', exists_and_left, exists_and_right, exists_const, exists_eq, exists_eq', and_assoc, true_and, and_true, false_and, and_false, true_or, or_true, false_or, or_false, reduceCtorEq, not_true_eq_false, not_false_eq_true, decide_true, decide_false, decide_eq_true_eq, decide_not, Bool.not_true, Bool.not_false, Bool.false_eq_true, Bool.true_and, Bool.and_true, Bool.false_and, Bool.and_false, Bool.true_or, Bool.or_true, Bool.false_or, Bool.or_false, if_true, if_false, ite_true, ite_false, Nat.reduceEqDiff, exists_false, eq_self, upd_same, Bool.not_eq_true', decide_eq_false_iff_not, Vl.kd]
        exact ⟨s, a, b, rfl, hs, hx, hy, k⟩
theorem idx3 (s : Sg) (hs : s ≠ .same) : s.ix - 3 < 3 ∧ ∃ z, [V.str (wd 3), V.str (wd 4), V.str (wd 5)][s.ix - 3]? = some z ∧ eqV z (.str s.s) = true ∧
    ∀ (m : Nat) (z' : V), m < s.ix - 3 → [V.str (wd 3), V.str (wd 4), V.str (wd 5)][m]? = some z' → eqV z' (.str s.s) = false := by
  have ne : ∀ i j, i < 42 → j < 42 → i ≠ j → eqV (.str (wd i)) (.str (wd j)) = false := fun i j hi hj h => by rw [eqV_str]; exact decide_eq_false fun e => h (by rw [wd_eq hi hj] at e; exact e)
  have eq : ∀ i, eqV (.str (wd i)) (.str (wd i)) = true := fun i => by rw [eqV_str]; simp
  cases s with
  | add => exact ⟨by decide, _, rfl, eq 3, fun m z' h _ => absurd h (Nat.not_lt_zero _)⟩
  | sub =>
    refine ⟨by decide, _, rfl, eq 4, fun m z' h e => ?_⟩
    have hm : m = 0 := by simp only [Sg.ix] at h; omega
    subst hm
    cases e
    exact ne 3 4 (by decide) (by decide) (by decide)
  | less =>
    refine ⟨by decide, _, rfl, eq 5, fun m z' h e => ?_⟩
    have hm : m = 0 ∨ m = 1 := by simp only [Sg.ix] at h; omega
    rcases hm with hm | hm
    · subst hm
      cases e
      exact ne 3 5 (by decide) (by decide) (by decide)
    · subst hm
      cases e
      exact ne 4 5 (by decide) (by decide) (by decide)
  | same => exact absurd rfl hs
theorem rd_L_worked {K : PySem.W.Frag} {vs : List V} {H : Hp} {Q : VK} {E : XK} (h : sp_L_worked vs H Q E) : t_L_worked K { nx := fun _ H' => Q .non H', rt := Q } (start ["_", "_", "_", "_"] vs) H := by
  obtain ⟨s, x, y, rfl, hx, hy, k⟩ := h
  show t_L_worked K _ [some (.str s.s), some x.v, some y.v, none] H
  unfold t_L_worked
  refine st_seq ?_
  simp only [tIfS, tRet, tRetN, tAsg, gName, gSub, gCons, gNil, gTup, tDrop, tNext, tVar, tC, tOp, tUn, tTest, tB, tAnd, tOr, tNot, tAndV, tOrV, tNotV, tIf, tCons, tNil, xLst, xTup, xDic, tCB, tCall, tChain, tSl, tPart, tNoPart, rI, rI0, rU, rEq, rNe, scal, rXL, rXT, rXQ, rLenL, rLenT, rLenS, rLenQ, rInt1, rTupL, rLstL, rIsN, rNotN, rInT, rAddS, rLtS, rInS1, rNinS1, rIxS, rSlS, rStL, rCt, rSL, tApp, tPopAt, tPopL, tJoinL, tIndex, xFld, xSet, xMeth, xMake, rGetS, rGetI, rInDS, rInDI, xPutS, xPutI, xGet2S, xGet2I, xPopI, rDctD, rLstD, rCatT, HO.ins.injEq, ixN0, ixN1, ixN2, ixN3, atI0, atI1, atI2, atI3, eqV_str, eqV_int, eqV_is, eqV_si, inV_nil, inV_cons, flatV, List.all_cons, List.all_nil, wd_eq, wd_ne0, wd_ne0', List.getElem?_cons_zero, List.getElem?_cons_succ, List.set_cons_zero, List.set_cons_succ, List.cons_append, List.nil_append, List.append_nil, Nat.reduceAdd, Nat.reduceLT, Option.some.injEq, V.int.injEq, V.str.injEq, V.bl.injEq, V.ref.injEq, HO.lst.injEq, HO.tup.injEq, HO.dK.injEq, List.cons.injEq, exists_eq_left, exists_eq_left', exists_eq_right, exists_eq_right', exists_and_left, exists_and_right, exists_const, exists_eq, exists_eq', and_assoc, true_and, and_true, false_and, and_false, true_or, or_true, false_or, or_false, reduceCtorEq, not_true_eq_false, not_false_eq_true, decide_true, decide_false, decide_eq_true_eq, decide_not, Bool.not_true, Bool.not_false, Bool.false_eq_true, Bool.true_and, Bool.and_true, Bool.false_and, Bool.and_false, Bool.true_or, Bool.or_true, Bool.false_or, Bool.or_false, if_true, if_false, ite_true, ite_false, Nat.reduceEqDiff, exists_false, eq_self, upd_same, Bool.not_eq_true', decide_eq_false_iff_not, is_str]
  refine st_seq ?_
  simp only [tIfS, tRet, tRetN, tAsg, gName, gSub, gCons, gNil, gTup, tDrop, tNext, tVar, tC, tOp, tUn, tTest, tB, tAnd, tOr, tNot, tAndV, tOrV, tNotV, tIf, tCons, tNil, xLst, xTup, xDic, tCB, tCall, tChain, tSl, tPart, tNoPart, rI, rI0, rU, rEq, rNe, scal, rXL, rXT, rXQ, rLenL, rLenT, rLenS, rLenQ, rInt1, rTupL, rLstL, rIsN, rNotN, rInT, rAddS, rLtS, rInS1, rNinS1, rIxS, rSlS, rStL, rCt, rSL, tApp, tPopAt, tPopL, tJoinL, tIndex, xFld, xSet, xMeth, xMake, rGetS, rGetI, rInDS, rInDI, xPutS, xPutI, xGet2S, xGet2I, xPopI, rDctD, rLstD, rCatT, HO.ins.injEq, ixN0, ixN1, ixN2, ixN3, atI0, atI1, atI2, atI3, eqV_str, eqV_int, eqV_is, eqV_si, inV_nil, inV_cons, flatV, List.all_cons, List.all_nil, wd_eq, wd_ne0, wd_ne0', List.getElem?_cons_zero, List.getElem?_cons_succ, List.set_cons_zero, List.set_cons_succ, List.cons_append, List.nil_append, List.append_nil, Nat.reduceAdd, Nat.reduceLT, Option.some.injEq, V.int.injEq, V.str.injEq, V.bl.injEq, V.ref.injEq, HO.lst.injEq, HO.tup.injEq, HO.dK.injEq, List.cons.injEq, exists_eq_left, exists_eq_left', exists_eq_right, exists_eq_right', exists_and_left, exists_and_right, exists_const, exists_eq, exists_eq', and_assoc, true_and, and_true, false_and, and_false, true_or, or_true, false_or, or_false, reduceCtorEq, not_true_eq_false, not_false_eq_true, decide_true, decide_false, decide_eq_true_eq, decide_not, Bool.not_true, Bool.not_false, Bool.false_eq_true, Bool.true_and, Bool.and_true, Bool.false_and, Bool.and_false, Bool.true_or, Bool.or_true, Bool.false_or, Bool.or_false, if_true, if_false, ite_true, ite_false, Nat.reduceEqDiff, exists_false, eq_self, upd_same, Bool.not_eq_true', decide_eq_false_iff_not, sg_eq]
  by_cases hs : s = .same
  · subst hs
    simp only [Sg.ix]
    have k0 := k H (.refl _ _)
    simp only [tIfS, tRet, tRetN, tAsg, gName, gSub, gCons, gNil, gTup, tDrop, tNext, tVar, tC, tOp, tUn, tTest, tB, tAnd, tOr, tNot, tAndV, tOrV, tNotV, tIf, tCons, tNil, xLst, xTup, xDic, tCB, tCall, tChain, tSl, tPart, tNoPart, rI, rI0, rU, rEq, rNe, scal, rXL, rXT, rXQ, rLenL, rLenT, rLenS, rLenQ, rInt1, rTupL, rLstL, rIsN, rNotN, rInT, rAddS, rLtS, rInS1, rNinS1, rIxS, rSlS, rStL, rCt, rSL, tApp, tPopAt, tPopL, tJoinL, tIndex, xFld, xSet, xMeth, xMake, rGetS, rGetI, rInDS, rInDI, xPutS, xPutI, xGet2S, xGet2I, xPopI, rDctD, rLstD, rCatT, HO.ins.injEq, ixN0, ixN1, ixN2, ixN3, atI0, atI1, atI2, atI3, eqV_str, eqV_int, eqV_is, eqV_si, inV_nil, inV_cons, flatV, List.all_cons, List.all_nil, wd_eq, wd_ne0, wd_ne0', List.getElem?_cons_zero, List.getElem?_cons_succ, List.set_cons_zero, List.set_cons_succ, List.cons_append, List.nil_append, List.append_nil, Nat.reduceAdd, Nat.reduceLT, Option.some.injEq, V.int.injEq, V.str.injEq, V.bl.injEq, V.ref.injEq, HO.lst.injEq, HO.tup.injEq, HO.dK.injEq, List.cons.injEq, exists_eq_left, exists_eq_left', exists_eq_right, exists_eq_right', exists_and_left, exists_and_right, exists_const, exists_eq, exists_eq', and_assoc, true_and, and_true, false_and, and_false, true_or, or_true, false_or, or_false, reduceCtorEq, not_true_eq_false, not_false_eq_true, decide_true, decide_false, decide_eq_true_eq, decide_not, Bool.not_true, Bool.not_false, Bool.false_eq_true, Bool.true_and, Bool.and_true, Bool.false_and, Bool.and_false, Bool.true_or, Bool.or_true, Bool.false_or, Bool.or_false, if_true, if_false, ite_true, ite_false, Nat.reduceEqDiff, exists_false, eq_self, upd_same, Bool.not_eq_true', decide_eq_false_iff_not, scal_v, Vl.v_inj]
    cases x <;> cases y <;> simp_all [ov, wk, b2n, Vl.v]
  · have e : ¬ s.ix = 6 := by cases s <;> simp_all [Sg.ix]
    rw [if_neg e]
    refine st_seq ?_
    cases x with
    | n i =>
      cases y with
      | n j =>
        simp only [tIfS, tRet, tRetN, tAsg, gName, gSub, gCons, gNil, gTup, tDrop, tNext, tVar, tC, tOp, tUn, tTest, tB, tAnd, tOr, tNot, tAndV, tOrV, tNotV, tIf, tCons, tNil, xLst, xTup, xDic, tCB, tCall, tChain, tSl, tPart, tNoPart, rI, rI0, rU, rEq, rNe, scal, rXL, rXT, rXQ, rLenL, rLenT, rLenS, rLenQ, rInt1, rTupL, rLstL, rIsN, rNotN, rInT, rAddS, rLtS, rInS1, rNinS1, rIxS, rSlS, rStL, rCt, rSL, tApp, tPopAt, tPopL, tJoinL, tIndex, xFld, xSet, xMeth, xMake, rGetS, rGetI, rInDS, rInDI, xPutS, xPutI, xGet2S, xGet2I, xPopI, rDctD, rLstD, rCatT, HO.ins.injEq, ixN0, ixN1, ixN2, ixN3, atI0, atI1, atI2, atI3, eqV_str, eqV_int, eqV_is, eqV_si, inV_nil, inV_cons, flatV, List.all_cons, List.all_nil, wd_eq, wd_ne0, wd_ne0', List.getElem?_cons_zero, List.getElem?_cons_succ, List.set_cons_zero, List.set_cons_succ, List.cons_append, List.nil_append, List.append_nil, Nat.reduceAdd, Nat.reduceLT, Option.some.injEq, V.int.injEq, V.str.injEq, V.bl.injEq, V.ref.injEq, HO.lst.injEq, HO.tup.injEq, HO.dK.injEq, List.cons.injEq, exists_eq_left, exists_eq_left', exists_eq_right, exists_eq_right', exists_and_left, exists_and_right, exists_const, exists_eq, exists_eq', and_assoc, true_and, and_true, false_and, and_false, true_or, or_true, false_or, or_false, reduceCtorEq, not_true_eq_false, not_false_eq_true, decide_true, decide_false, decide_eq_true_eq, decide_not, Bool.not_true, Bool.not_false, Bool.false_eq_true, Bool.true_and, Bool.and_true, Bool.false_and, Bool.and_false, Bool.true_or, Bool.or_true, Bool.false_or, Bool.or_false, if_true, if_false, ite_true, ite_false, Nat.reduceEqDiff, exists_false, eq_self, upd_same, Bool.not_eq_true', decide_eq_false_iff_not]
        refine st_seq ?_
        simp only [tIfS, tRet, tRetN, tAsg, gName, gSub, gCons, gNil, gTup, tDrop, tNext, tVar, tC, tOp, tUn, tTest, tB, tAnd, tOr, tNot, tAndV, tOrV, tNotV, tIf, tCons, tNil, xLst, xTup, xDic, tCB, tCall, tChain, tSl, tPart, tNoPart, rI, rI0, rU, rEq, rNe, scal, rXL, rXT, rXQ, rLenL, rLenT, rLenS, rLenQ, rInt1, rTupL, rLstL, rIsN, rNotN, rInT, rAddS, rLtS, rInS1, rNinS1, rIxS, rSlS, rStL, rCt, rSL, tApp, tPopAt, tPopL, tJoinL, tIndex, xFld, xSet, xMeth, xMake, rGetS, rGetI, rInDS, rInDI, xPutS, xPutI, xGet2S, xGet2I, xPopI, rDctD, rLstD, rCatT, HO.ins.injEq, ixN0, ixN1, ixN2, ixN3, atI0, atI1, atI2, atI3, eqV_str, eqV_int, eqV_is, eqV_si, inV_nil, inV_cons, flatV, List.all_cons, List.all_nil, wd_eq, wd_ne0, wd_ne0', List.getElem?_cons_zero, List.getElem?_cons_succ, List.set_cons_zero, List.set_cons_succ, List.cons_append, List.nil_append, List.append_nil, Nat.reduceAdd, Nat.reduceLT, Option.some.injEq, V.int.injEq, V.str.injEq, V.bl.injEq, V.ref.injEq, HO.lst.injEq, HO.tup.injEq, HO.dK.injEq, List.cons.injEq, exists_eq_left, exists_eq_left', exists_eq_right, exists_eq_right', exists_and_left, exists_and_right, exists_const, exists_eq, exists_eq', and_assoc, true_and, and_true, false_and, and_false, true_or, or_true, false_or, or_false, reduceCtorEq, not_true_eq_false, not_false_eq_true, decide_true, decide_false, decide_eq_true_eq, decide_not, Bool.not_true, Bool.not_false, Bool.false_eq_true, Bool.true_and, Bool.and_true, Bool.false_and, Bool.and_false, Bool.true_or, Bool.or_true, Bool.false_or, Bool.or_false, if_true, if_false, ite_true, ite_false, Nat.reduceEqDiff, exists_false, eq_self, upd_same, Bool.not_eq_true', decide_eq_false_iff_not, is_str]
        simp only [tIfS, tRet, tRetN, tAsg, gName, gSub, gCons, gNil, gTup, tDrop, tNext, tVar, tC, tOp, tUn, tTest, tB, tAnd, tOr, tNot, tAndV, tOrV, tNotV, tIf, tCons, tNil, xLst, xTup, xDic, tCB, tCall, tChain, tSl, tPart, tNoPart, rI, rI0, rU, rEq, rNe, scal, rXL, rXT, rXQ, rLenL, rLenT, rLenS, rLenQ, rInt1, rTupL, rLstL, rIsN, rNotN, rInT, rAddS, rLtS, rInS1, rNinS1, rIxS, rSlS, rStL, rCt, rSL, tApp, tPopAt, tPopL, tJoinL, tIndex, xFld, xSet, xMeth, xMake, rGetS, rGetI, rInDS, rInDI, xPutS, xPutI, xGet2S, xGet2I, xPopI, rDctD, rLstD, rCatT, HO.ins.injEq, ixN0, ixN1, ixN2, ixN3, atI0, atI1, atI2, atI3, eqV_str, eqV_int, eqV_is, eqV_si, inV_nil, inV_cons, flatV, List.all_cons, List.all_nil, wd_eq, wd_ne0, wd_ne0', List.getElem?_cons_zero, List.getElem?_cons_succ, List.set_cons_zero, List.set_cons_succ, List.cons_append, List.nil_append, List.append_nil, Nat.reduceAdd, Nat.reduceLT, Option.some.injEq, V.int.injEq, V.str.injEq, V.bl.injEq, V.ref.injEq, HO.lst.injEq, HO.tup.injEq, HO.dK.injEq, List.cons.injEq, exists_eq_left, exists_eq_left', exists_eq_right, exists_eq_right', exists_and_left, exists_and_right, exists_const, exists_eq, exists_eq', and_assoc, true_and, and_true, false_and, and_false, true_or, or_true, false_or, or_false, reduceCtorEq, not_true_eq_false, not_false_eq_true, decide_true, decide_false, decide_eq_true_eq, decide_not, Bool.not_true, Bool.not_false, Bool.false_eq_true, Bool.true_and, Bool.and_true, Bool.false_and, Bool.and_false, Bool.true_or, Bool.or_true, Bool.false_or, Bool.or_false, if_true, if_false, ite_true, ite_false, Nat.reduceEqDiff, exists_false, eq_self, upd_same, Bool.not_eq_true', decide_eq_false_iff_not, Vl.v]
        refine ⟨by decide, by decide, (by simp only [List.length_cons, List.length_nil]; decide), fun p H1 A => ⟨(by simp only [List.length_cons, List.length_nil]; decide), fun q H2 B => ?_⟩⟩
        have k0 := k H2 (A.fr.al B)
        simp only [tIfS, tRet, tRetN, tAsg, gName, gSub, gCons, gNil, gTup, tDrop, tNext, tVar, tC, tOp, tUn, tTest, tB, tAnd, tOr, tNot, tAndV, tOrV, tNotV, tIf, tCons, tNil, xLst, xTup, xDic, tCB, tCall, tChain, tSl, tPart, tNoPart, rI, rI0, rU, rEq, rNe, scal, rXL, rXT, rXQ, rLenL, rLenT, rLenS, rLenQ, rInt1, rTupL, rLstL, rIsN, rNotN, rInT, rAddS, rLtS, rInS1, rNinS1, rIxS, rSlS, rStL, rCt, rSL, tApp, tPopAt, tPopL, tJoinL, tIndex, xFld, xSet, xMeth, xMake, rGetS, rGetI, rInDS, rInDI, xPutS, xPutI, xGet2S, xGet2I, xPopI, rDctD, rLstD, rCatT, HO.ins.injEq, ixN0, ixN1, ixN2, ixN3, atI0, atI1, atI2, atI3, eqV_str, eqV_int, eqV_is, eqV_si, inV_nil, inV_cons, flatV, List.all_cons, List.all_nil, wd_eq, wd_ne0, wd_ne0', List.getElem?_cons_zero, List.getElem?_cons_succ, List.set_cons_zero, List.set_cons_succ, List.cons_append, List.nil_append, List.append_nil, Nat.reduceAdd, Nat.reduceLT, Option.some.injEq, V.int.injEq, V.str.injEq, V.bl.injEq, V.ref.injEq, HO.lst.injEq, HO.tup.injEq, HO.dK.injEq, List.cons.injEq, exists_eq_left, exists_eq_left', exists_eq_right, exists_eq_right', exists_and_left, exists_and_right, exists_const, exists_eq, exists_eq', and_assoc, true_and, and_true, false_and, and_false, true_or, or_true, false_or, or_false, reduceCtorEq, not_true_eq_false, not_false_eq_true, decide_true, decide_false, decide_eq_true_eq, decide_not, Bool.not_true, Bool.not_false, Bool.false_eq_true, Bool.true_and, Bool.and_true, Bool.false_and, Bool.and_false, Bool.true_or, Bool.or_true, Bool.false_or, Bool.or_false, if_true, if_false, ite_true, ite_false, Nat.reduceEqDiff, exists_false, eq_self, upd_same, Bool.not_eq_true', decide_eq_false_iff_not, B.at_]
        obtain ⟨hj, z, h1, h2, h3⟩ := idx3 s hs
        refine ⟨s.ix - 3, z, h1, h2, h3, ?_⟩
        simp only [tIfS, tRet, tRetN, tAsg, gName, gSub, gCons, gNil, gTup, tDrop, tNext, tVar, tC, tOp, tUn, tTest, tB, tAnd, tOr, tNot, tAndV, tOrV, tNotV, tIf, tCons, tNil, xLst, xTup, xDic, tCB, tCall, tChain, tSl, tPart, tNoPart, rI, rI0, rU, rEq, rNe, scal, rXL, rXT, rXQ, rLenL, rLenT, rLenS, rLenQ, rInt1, rTupL, rLstL, rIsN, rNotN, rInT, rAddS, rLtS, rInS1, rNinS1, rIxS, rSlS, rStL, rCt, rSL, tApp, tPopAt, tPopL, tJoinL, tIndex, xFld, xSet, xMeth, xMake, rGetS, rGetI, rInDS, rInDI, xPutS, xPutI, xGet2S, xGet2I, xPopI, rDctD, rLstD, rCatT, HO.ins.injEq, ixN0, ixN1, ixN2, ixN3, atI0, atI1, atI2, atI3, eqV_str, eqV_int, eqV_is, eqV_si, inV_nil, inV_cons, flatV, List.all_cons, List.all_nil, wd_eq, wd_ne0, wd_ne0', List.getElem?_cons_zero, List.getElem?_cons_succ, List.set_cons_zero, List.set_cons_succ, List.cons_append, List.nil_append, List.append_nil, Nat.reduceAdd, Nat.reduceLT, Option.some.injEq, V.int.injEq, V.str.injEq, V.bl.injEq, V.ref.injEq, HO.lst.injEq, HO.tup.injEq, HO.dK.injEq, List.cons.injEq, exists_eq_left, exists_eq_left', exists_eq_right, exists_eq_right', exists_and_left, exists_and_right, exists_const, exists_eq, exists_eq', and_assoc, true_and, and_true, false_and, and_false, true_or, or_true, false_or, or_false, reduceCtorEq, not_true_eq_false, not_false_eq_true, decide_true, decide_false, decide_eq_true_eq, decide_not, Bool.not_true, Bool.not_false, Bool.false_eq_true, Bool.true_and, Bool.and_true, Bool.false_and, Bool.and_false, Bool.true_or, Bool.or_true, Bool.false_or, Bool.or_false, if_true, if_false, ite_true, ite_false, Nat.reduceEqDiff, exists_false, eq_self, upd_same, Bool.not_eq_true', decide_eq_false_iff_not, B.k A.at_]
        cases s with
        | add => exact ⟨_, atI0 _ _, k0⟩
        | sub => exact ⟨_, atI1 _ _ _, k0⟩
        | less => refine ⟨_, atI2 _ _ _ _, ?_⟩; simpa [ov, wk, Vl.v, b2n] using k0
        | same => exact absurd rfl hs
      | t b =>
        simp only [tIfS, tRet, tRetN, tAsg, gName, gSub, gCons, gNil, gTup, tDrop, tNext, tVar, tC, tOp, tUn, tTest, tB, tAnd, tOr, tNot, tAndV, tOrV, tNotV, tIf, tCons, tNil, xLst, xTup, xDic, tCB, tCall, tChain, tSl, tPart, tNoPart, rI, rI0, rU, rEq, rNe, scal, rXL, rXT, rXQ, rLenL, rLenT, rLenS, rLenQ, rInt1, rTupL, rLstL, rIsN, rNotN, rInT, rAddS, rLtS, rInS1, rNinS1, rIxS, rSlS, rStL, rCt, rSL, tApp, tPopAt, tPopL, tJoinL, tIndex, xFld, xSet, xMeth, xMake, rGetS, rGetI, rInDS, rInDI, xPutS, xPutI, xGet2S, xGet2I, xPopI, rDctD, rLstD, rCatT, HO.ins.injEq, ixN0, ixN1, ixN2, ixN3, atI0, atI1, atI2, atI3, eqV_str, eqV_int, eqV_is, eqV_si, inV_nil, inV_cons, flatV, List.all_cons, List.all_nil, wd_eq, wd_ne0, wd_ne0', List.getElem?_cons_zero, List.getElem?_cons_succ, List.set_cons_zero, List.set_cons_succ, List.cons_append, List.nil_append, List.append_nil, Nat.reduceAdd, Nat.reduceLT, Option.some.injEq, V.int.injEq, V.str.injEq, V.bl.injEq, V.ref.injEq, HO.lst.injEq, HO.tup.injEq, HO.dK.injEq, List.cons.injEq, exists_eq_left, exists_eq_left', exists_eq_right, exists_eq_right', exists_and_left, exists_and_right, exists_const, exists_eq, exists_eq', and_assoc, true_and, and_true, false_and, and_false, true_or, or_true, false_or, or_false, reduceCtorEq, not_true_eq_false, not_false_eq_true, decide_true, decide_false, decide_eq_true_eq, decide_not, Bool.not_true, Bool.not_false, Bool.false_eq_true, Bool.true_and, Bool.and_true, Bool.false_and, Bool.and_false, Bool.true_or, Bool.or_true, Bool.false_or, Bool.or_false, if_true, if_false, ite_true, ite_false, Nat.reduceEqDiff, exists_false, eq_self, upd_same, Bool.not_eq_true', decide_eq_false_iff_not]
        have k0 := k H (.refl _ _)
        cases s <;> first | exact absurd rfl hs | exact k0
    | t a =>
      cases y with
      | n j =>
        simp only [tIfS, tRet, tRetN, tAsg, gName, gSub, gCons, gNil, gTup, tDrop, tNext, tVar, tC, tOp, tUn, tTest, tB, tAnd, tOr, tNot, tAndV, tOrV, tNotV, tIf, tCons, tNil, xLst, xTup, xDic, tCB, tCall, tChain, tSl, tPart, tNoPart, rI, rI0, rU, rEq, rNe, scal, rXL, rXT, rXQ, rLenL, rLenT, rLenS, rLenQ, rInt1, rTupL, rLstL, rIsN, rNotN, rInT, rAddS, rLtS, rInS1, rNinS1, rIxS, rSlS, rStL, rCt, rSL, tApp, tPopAt, tPopL, tJoinL, tIndex, xFld, xSet, xMeth, xMake, rGetS, rGetI, rInDS, rInDI, xPutS, xPutI, xGet2S, xGet2I, xPopI, rDctD, rLstD, rCatT, HO.ins.injEq, ixN0, ixN1, ixN2, ixN3, atI0, atI1, atI2, atI3, eqV_str, eqV_int, eqV_is, eqV_si, inV_nil, inV_cons, flatV, List.all_cons, List.all_nil, wd_eq, wd_ne0, wd_ne0', List.getElem?_cons_zero, List.getElem?_cons_succ, List.set_cons_zero, List.set_cons_succ, List.cons_append, List.nil_append, List.append_nil, Nat.reduceAdd, Nat.reduceLT, Option.some.injEq, V.int.injEq, V.str.injEq, V.bl.injEq, V.ref.injEq, HO.lst.injEq, HO.tup.injEq, HO.dK.injEq, List.cons.injEq, exists_eq_left, exists_eq_left', exists_eq_right, exists_eq_right', exists_and_left, exists_and_right, exists_const, exists_eq, exists_eq', and_assoc, true_and, and_true, false_and, and_false, true_or, or_true, false_or, or_false, reduceCtorEq, not_true_eq_false, not_false_eq_true, decide_true, decide_false, decide_eq_true_eq, decide_not, Bool.not_true, Bool.not_false, Bool.false_eq_true, Bool.true_and, Bool.and_true, Bool.false_and, Bool.and_false, Bool.true_or, Bool.or_true, Bool.false_or, Bool.or_false, if_true, if_false, ite_true, ite_false, Nat.reduceEqDiff, exists_false, eq_self, upd_same, Bool.not_eq_true', decide_eq_false_iff_not]
        have k0 := k H (.refl _ _)
        cases s <;> first | exact absurd rfl hs | exact k0
      | t b =>
        simp only [tIfS, tRet, tRetN, tAsg, gName, gSub, gCons, gNil, gTup, tDrop, tNext, tVar, tC, tOp, tUn, tTest, tB, tAnd, tOr, tNot, tAndV, tOrV, tNotV, tIf, tCons, tNil, xLst, xTup, xDic, tCB, tCall, tChain, tSl, tPart, tNoPart, rI, rI0, rU, rEq, rNe, scal, rXL, rXT, rXQ, rLenL, rLenT, rLenS, rLenQ, rInt1, rTupL, rLstL, rIsN, rNotN, rInT, rAddS, rLtS, rInS1, rNinS1, rIxS, rSlS, rStL, rCt, rSL, tApp, tPopAt, tPopL, tJoinL, tIndex, xFld, xSet, xMeth, xMake, rGetS, rGetI, rInDS, rInDI, xPutS, xPutI, xGet2S, xGet2I, xPopI, rDctD, rLstD, rCatT, HO.ins.injEq, ixN0, ixN1, ixN2, ixN3, atI0, atI1, atI2, atI3, eqV_str, eqV_int, eqV_is, eqV_si, inV_nil, inV_cons, flatV, List.all_cons, List.all_nil, wd_eq, wd_ne0, wd_ne0', List.getElem?_cons_zero, List.getElem?_cons_succ, List.set_cons_zero, List.set_cons_succ, List.cons_append, List.nil_append, List.append_nil, Nat.reduceAdd, Nat.reduceLT, Option.some.injEq, V.int.injEq, V.str.injEq, V.bl.injEq, V.ref.injEq, HO.lst.injEq, HO.tup.injEq, HO.dK.injEq, List.cons.injEq, exists_eq_left, exists_eq_left', exists_eq_right, exists_eq_right', exists_and_left, exists_and_right, exists_const, exists_eq, exists_eq', and_assoc, true_and, and_true, false_and, and_false, true_or, or_true, false_or, or_false, reduceCtorEq, not_true_eq_false, not_false_eq_true, decide_true, decide_false, decide_eq_true_eq, decide_not, Bool.not_true, Bool.not_false, Bool.false_eq_true, Bool.true_and, Bool.and_true, Bool.false_and, Bool.and_false, Bool.true_or, Bool.or_true, Bool.false_or, Bool.or_false, if_true, if_false, ite_true, ite_false, Nat.reduceEqDiff, exists_false, eq_self, upd_same, Bool.not_eq_true', decide_eq_false_iff_not]
        refine st_seq ?_
        simp only [tIfS, tRet, tRetN, tAsg, gName, gSub, gCons, gNil, gTup, tDrop, tNext, tVar, tC, tOp, tUn, tTest, tB, tAnd, tOr, tNot, tAndV, tOrV, tNotV, tIf, tCons, tNil, xLst, xTup, xDic, tCB, tCall, tChain, tSl, tPart, tNoPart, rI, rI0, rU, rEq, rNe, scal, rXL, rXT, rXQ, rLenL, rLenT, rLenS, rLenQ, rInt1, rTupL, rLstL, rIsN, rNotN, rInT, rAddS, rLtS, rInS1, rNinS1, rIxS, rSlS, rStL, rCt, rSL, tApp, tPopAt, tPopL, tJoinL, tIndex, xFld, xSet, xMeth, xMake, rGetS, rGetI, rInDS, rInDI, xPutS, xPutI, xGet2S, xGet2I, xPopI, rDctD, rLstD, rCatT, HO.ins.injEq, ixN0, ixN1, ixN2, ixN3, atI0, atI1, atI2, atI3, eqV_str, eqV_int, eqV_is, eqV_si, inV_nil, inV_cons, flatV, List.all_cons, List.all_nil, wd_eq, wd_ne0, wd_ne0', List.getElem?_cons_zero, List.getElem?_cons_succ, List.set_cons_zero, List.set_cons_succ, List.cons_append, List.nil_append, List.append_nil, Nat.reduceAdd, Nat.reduceLT, Option.some.injEq, V.int.injEq, V.str.injEq, V.bl.injEq, V.ref.injEq, HO.lst.injEq, HO.tup.injEq, HO.dK.injEq, List.cons.injEq, exists_eq_left, exists_eq_left', exists_eq_right, exists_eq_right', exists_and_left, exists_and_right, exists_const, exists_eq, exists_eq', and_assoc, true_and, and_true, false_and, and_false, true_or, or_true, false_or, or_false, reduceCtorEq, not_true_eq_false, not_false_eq_true, decide_true, decide_false, decide_eq_true_eq, decide_not, Bool.not_true, Bool.not_false, Bool.false_eq_true, Bool.true_and, Bool.and_true, Bool.false_and, Bool.and_false, Bool.true_or, Bool.or_true, Bool.false_or, Bool.or_false, if_true, if_false, ite_true, ite_false, Nat.reduceEqDiff, exists_false, eq_self, upd_same, Bool.not_eq_true', decide_eq_false_iff_not, is_str]
        exact ⟨s, a, b, rfl, hs, hx, hy, k⟩
end Hn

namespace Hn
open PySem PySem.Spec PyProof.Rows L2
/-- _law_text from 1 -/
def t_L_text_1 (K : PySem.W.Frag) : TS :=
  (tSeq (tAsg (tOp rXL (xLst (tCons (tCall sp_L_take [] E0 (tCons (tVar 0) (tCons (tC (.int 3)) tNil))) (tCons (tCall sp_L_take [] E0 (tCons (tVar 0) (tCons (tC (.int 13)) tNil))) tNil))) (tCB rInt1 (tCons (tOp rEq (tCall sp_L_take [] E0 (tCons (tVar 0) (tCons (tC (.int 8)) tNil))) (tC (.int 1))) tNil))) (gName 2))
    (tRet (tJoinL (tC (.str ("" : Str))) (tLc (iRng1 (tCons (tVar 2) tNil)) (gName 3) tYes (tOp rIxS (tVar 1) (tCall sp_L_take [] E0 (tCons (tVar 0) (tCons (tCB rLenS (tCons (tVar 1) tNil)) tNil)))) [3]))))

/-- _law_text -/
def t_L_text (K : PySem.W.Frag) : TS :=
  tSeq (tAsg (tOp rXL (xLst (tCons (tC (.str ("abz" : Str))) (tCons (tC (.str ("abcdefghijklmnopqrstuvwxyz" : Str))) tNil))) (tCall sp_L_take [] E0 (tCons (tVar 0) (tCons (tC (.int 2)) tNil)))) (gName 1)) (t_L_text_1 K)

/-- of_texts from 1 -/
def t_of_texts_1 (K : PySem.W.Frag) : TS :=
  (tSeq (tIfS (tTest (tOp rEq (tVar 0) (tC (.str (wd 4))))) (tRet (tJoinL (tC (.str ("" : Str))) (tLc (iStr (tVar 1)) (gName 3) (tTest (tOp rNinS1 (tVar 3) (tVar 2))) (tVar 3) [3]))) tNext)
    (tRet (tCB rInt1 (tCons (tOp rLtS (tVar 1) (tVar 2)) tNil))))

/-- of_texts -/
def t_of_texts (K : PySem.W.Frag) : TS :=
  tSeq (tIfS (tTest (tOp rEq (tVar 0) (tC (.str (wd 3))))) (tRet (tSl rSlS (tOp rAddS (tVar 1) (tVar 2)) tNoPart (tPart (tC (.int 12))))) tNext) (t_of_texts_1 K)

/-- _law_of_texts from 1 -/
def t_L_of_texts_1 (K : PySem.W.Frag) : TS :=
  (tSeq (tIfS (tTest (tOp rEq (tVar 0) (tC (.str (wd 5))))) (tRet (tCB rInt1 (tCons (tOp rLtS (tVar 1) (tVar 2)) tNil))) tNext)
    (tRet (tJoinL (tC (.str ("" : Str))) (tLc (iStr (tVar 1)) (gName 3) (tTest (tOp rNinS1 (tVar 3) (tVar 2))) (tVar 3) [3]))))

/-- _law_of_texts -/
def t_L_of_texts (K : PySem.W.Frag) : TS :=
  tSeq (tIfS (tTest (tOp rEq (tVar 0) (tC (.str (wd 3))))) (tRet (tSl rSlS (tOp rAddS (tVar 1) (tVar 2)) tNoPart (tPart (tC (.int 12))))) tNext) (t_L_of_texts_1 K)

/-- _law_script -/
def t_L_script (K : PySem.W.Frag) : TS :=
  (tSeq (tAsg (tOp (rI (fun _ j => 0 < j) fun i j => .int (i % j)) (tCB (rSum K) (tCons (tLc (iEnum K (tCons (tVar 0) tNil)) (gTup K 2 (gCons (gName 2) (gCons (gName 3) gNil))) tYes (tOp (rI CMul fun i j => .int (i * j)) (tOp (rI0 fun i j => .int (i + j)) (tVar 2) (tC (.int 1))) (tOp (rI (fun _ j => 0 < j) fun i j => .int (i % j)) (tVar 3) (tC (.int 69621)))) [2, 3]) tNil)) (tC (.int 2147483647))) (gName 1))
    (tRet (xLst (tCons (tCB (rLstK K) (tCons (tVar 0) tNil)) (tCons (tOp (rI CMul fun i j => .int (i * j)) (tVar 1) (tCB rInt1 (tCons (tOp (rI0 fun i j => .bl (decide (j < i))) (tCB (rLenK K) (tCons (tVar 0) tNil)) (tC (.int 2))) tNil))) tNil)))))

theorem rd_L_value {K : PySem.W.Frag} {vs : List V} {H : Hp} {Q : VK} {E : XK} (h : sp_L_value vs H Q E) : t_L_value K { nx := fun _ H' => Q .non H', rt := Q } (start ["_"] vs) H := by
  obtain ⟨b, l, rfl, B, k⟩ := h
  show t_L_value K _ [some (.ref b)] H
  unfold t_L_value
  refine st_seq ?_
  simp only [tIfS, tRet, tRetN, tAsg, gName, gSub, gCons, gNil, gTup, tDrop, tNext, tVar, tC, tOp, tUn, tTest, tB, tAnd, tOr, tNot, tAndV, tOrV, tNotV, tIf, tCons, tNil, xLst, xTup, xDic, tCB, tCall, tChain, tSl, tPart, tNoPart, rI, rI0, rU, rEq, rNe, scal, rXL, rXT, rXQ, rLenL, rLenT, rLenS, rLenQ, rInt1, rTupL, rLstL, rIsN, rNotN, rInT, rAddS, rLtS, rInS1, rNinS1, rIxS, rSlS, rStL, rCt, rSL, tApp, tPopAt, tPopL, tJoinL, tIndex, xFld, xSet, xMeth, xMake, rGetS, rGetI, rInDS, rInDI, xPutS, xPutI, xGet2S, xGet2I, xPopI, rDctD, rLstD, rCatT, HO.ins.injEq, ixN0, ixN1, ixN2, ixN3, atI0, atI1, atI2, atI3, eqV_str, eqV_int, eqV_is, eqV_si, inV_nil, inV_cons, flatV, List.all_cons, List.all_nil, wd_eq, wd_ne0, wd_ne0', List.getElem?_cons_zero, List.getElem?_cons_succ, List.set_cons_zero, List.set_cons_succ, List.cons_append, List.nil_append, List.append_nil, Nat.reduceAdd, Nat.reduceLT, Option.some.injEq, V.int.injEq, V.str.injEq, V.bl.injEq, V.ref.injEq, HO.lst.injEq, HO.tup.injEq, HO.dK.injEq, List.cons.injEq, exists_eq_left, exists_eq_left', exists_eq_right, exists_eq_right', exists_and_left, exists_and_right, exists_const, exists_eq, exists_eq', and_assoc, true_and, and_true, false_and, and_false, true_or, or_true, false_or, or_false, reduceCtorEq, not_true_eq_false, not_false_eq_true, decide_true, decide_false, decide_eq_true_eq, decide_not, Bool.not_true, Bool.not_false, Bool.false_eq_true, Bool.true_and, Bool.and_true, Bool.false_and, Bool.and_false, Bool.true_or, Bool.or_true, Bool.false_or, Bool.or_false, if_true, if_false, ite_true, ite_false, Nat.reduceEqDiff, exists_false, eq_self, upd_same, Bool.not_eq_true', decide_eq_false_iff_not]
  refine ⟨b, l, 3, rfl, B, by decide, by decide, fun r H1 r0 r1 B1 f1 => ?_⟩
  simp only [tIfS, tRet, tRetN, tAsg, gName, gSub, gCons, gNil, gTup, tDrop, tNext, tVar, tC, tOp, tUn, tTest, tB, tAnd, tOr, tNot, tAndV, tOrV, tNotV, tIf, tCons, tNil, xLst, xTup, xDic, tCB, tCall, tChain, tSl, tPart, tNoPart, rI, rI0, rU, rEq, rNe, scal, rXL, rXT, rXQ, rLenL, rLenT, rLenS, rLenQ, rInt1, rTupL, rLstL, rIsN, rNotN, rInT, rAddS, rLtS, rInS1, rNinS1, rIxS, rSlS, rStL, rCt, rSL, tApp, tPopAt, tPopL, tJoinL, tIndex, xFld, xSet, xMeth, xMake, rGetS, rGetI, rInDS, rInDI, xPutS, xPutI, xGet2S, xGet2I, xPopI, rDctD, rLstD, rCatT, HO.ins.injEq, ixN0, ixN1, ixN2, ixN3, atI0, atI1, atI2, atI3, eqV_str, eqV_int, eqV_is, eqV_si, inV_nil, inV_cons, flatV, List.all_cons, List.all_nil, wd_eq, wd_ne0, wd_ne0', List.getElem?_cons_zero, List.getElem?_cons_succ, List.set_cons_zero, List.set_cons_succ, List.cons_append, List.nil_append, List.append_nil, Nat.reduceAdd, Nat.reduceLT, Option.some.injEq, V.int.injEq, V.str.injEq, V.bl.injEq, V.ref.injEq, HO.lst.injEq, HO.tup.injEq, HO.dK.injEq, List.cons.injEq, exists_eq_left, exists_eq_left', exists_eq_right, exists_eq_right', exists_and_left, exists_and_right, exists_const, exists_eq, exists_eq', and_assoc, true_and, and_true, false_and, and_false, true_or, or_true, false_or, or_false, reduceCtorEq, not_true_eq_false, not_false_eq_true, decide_true, decide_false, decide_eq_true_eq, decide_not, Bool.not_true, Bool.not_false, Bool.false_eq_true, Bool.true_and, Bool.and_true, Bool.false_and, Bool.and_false, Bool.true_or, Bool.or_true, Bool.false_or, Bool.or_false, if_true, if_false, ite_true, ite_false, Nat.reduceEqDiff, exists_false, eq_self, upd_same, Bool.not_eq_true', decide_eq_false_iff_not]
  split
  · exact ⟨b, l, rfl, B1, fun z H2 hz B2 f2 => k (.t z) H2 hz B2 (f1.trans f2)⟩
  · refine ⟨b, l, 4, rfl, B1, by decide, by decide, fun x H2 x0 x1 B2 f2 => ?_⟩
    refine ⟨b, l, 10007, rfl, B2, by decide, by decide, fun y H3 y0 y1 B3 f3 => ?_⟩
    simp only [tIfS, tRet, tRetN, tAsg, gName, gSub, gCons, gNil, gTup, tDrop, tNext, tVar, tC, tOp, tUn, tTest, tB, tAnd, tOr, tNot, tAndV, tOrV, tNotV, tIf, tCons, tNil, xLst, xTup, xDic, tCB, tCall, tChain, tSl, tPart, tNoPart, rI, rI0, rU, rEq, rNe, scal, rXL, rXT, rXQ, rLenL, rLenT, rLenS, rLenQ, rInt1, rTupL, rLstL, rIsN, rNotN, rInT, rAddS, rLtS, rInS1, rNinS1, rIxS, rSlS, rStL, rCt, rSL, tApp, tPopAt, tPopL, tJoinL, tIndex, xFld, xSet, xMeth, xMake, rGetS, rGetI, rInDS, rInDI, xPutS, xPutI, xGet2S, xGet2I, xPopI, rDctD, rLstD, rCatT, HO.ins.injEq, ixN0, ixN1, ixN2, ixN3, atI0, atI1, atI2, atI3, eqV_str, eqV_int, eqV_is, eqV_si, inV_nil, inV_cons, flatV, List.all_cons, List.all_nil, wd_eq, wd_ne0, wd_ne0', List.getElem?_cons_zero, List.getElem?_cons_succ, List.set_cons_zero, List.set_cons_succ, List.cons_append, List.nil_append, List.append_nil, Nat.reduceAdd, Nat.reduceLT, Option.some.injEq, V.int.injEq, V.str.injEq, V.bl.injEq, V.ref.injEq, HO.lst.injEq, HO.tup.injEq, HO.dK.injEq, List.cons.injEq, exists_eq_left, exists_eq_left', exists_eq_right, exists_eq_right', exists_and_left, exists_and_right, exists_const, exists_eq, exists_eq', and_assoc, true_and, and_true, false_and, and_false, true_or, or_true, false_or, or_false, reduceCtorEq, not_true_eq_false, not_false_eq_true, decide_true, decide_false, decide_eq_true_eq, decide_not, Bool.not_true, Bool.not_false, Bool.false_eq_true, Bool.true_and, Bool.and_true, Bool.false_and, Bool.and_false, Bool.true_or, Bool.or_true, Bool.false_or, Bool.or_false, if_true, if_false, ite_true, ite_false, Nat.reduceEqDiff, exists_false, eq_self, upd_same, Bool.not_eq_true', decide_eq_false_iff_not]
    refine ⟨(by simp only [List.length_cons, List.length_nil]; decide), fun p H4 A => ?_⟩
    have B4 := B3.keep A.fr
    refine ⟨b, l, 2, rfl, B4, by decide, by decide, fun z H5 z0 z1 B5 f5 => ?_⟩
    have hp : H5 p = some (.lst [.int x, .int y]) := by
      refine f5.keep _ _ A.at_ ?_
      obtain ⟨_, _, _, h1, h2, _⟩ := B3
      simp only [List.mem_cons, List.not_mem_nil, or_false, not_or]
      exact ⟨fun e => ne_of_none h1 A.new e.symm, fun e => ne_of_none h2 A.new e.symm⟩
    simp only [tIfS, tRet, tRetN, tAsg, gName, gSub, gCons, gNil, gTup, tDrop, tNext, tVar, tC, tOp, tUn, tTest, tB, tAnd, tOr, tNot, tAndV, tOrV, tNotV, tIf, tCons, tNil, xLst, xTup, xDic, tCB, tCall, tChain, tSl, tPart, tNoPart, rI, rI0, rU, rEq, rNe, scal, rXL, rXT, rXQ, rLenL, rLenT, rLenS, rLenQ, rInt1, rTupL, rLstL, rIsN, rNotN, rInT, rAddS, rLtS, rInS1, rNinS1, rIxS, rSlS, rStL, rCt, rSL, tApp, tPopAt, tPopL, tJoinL, tIndex, xFld, xSet, xMeth, xMake, rGetS, rGetI, rInDS, rInDI, xPutS, xPutI, xGet2S, xGet2I, xPopI, rDctD, rLstD, rCatT, HO.ins.injEq, ixN0, ixN1, ixN2, ixN3, atI0, atI1, atI2, atI3, eqV_str, eqV_int, eqV_is, eqV_si, inV_nil, inV_cons, flatV, List.all_cons, List.all_nil, wd_eq, wd_ne0, wd_ne0', List.getElem?_cons_zero, List.getElem?_cons_succ, List.set_cons_zero, List.set_cons_succ, List.cons_append, List.nil_append, List.append_nil, Nat.reduceAdd, Nat.reduceLT, Option.some.injEq, V.int.injEq, V.str.injEq, V.bl.injEq, V.ref.injEq, HO.lst.injEq, HO.tup.injEq, HO.dK.injEq, List.cons.injEq, exists_eq_left, exists_eq_left', exists_eq_right, exists_eq_right', exists_and_left, exists_and_right, exists_const, exists_eq, exists_eq', and_assoc, true_and, and_true, false_and, and_false, true_or, or_true, false_or, or_false, reduceCtorEq, not_true_eq_false, not_false_eq_true, decide_true, decide_false, decide_eq_true_eq, decide_not, Bool.not_true, Bool.not_false, Bool.false_eq_true, Bool.true_and, Bool.and_true, Bool.false_and, Bool.and_false, Bool.true_or, Bool.or_true, Bool.false_or, Bool.or_false, if_true, if_false, ite_true, ite_false, Nat.reduceEqDiff, exists_false, eq_self, upd_same, Bool.not_eq_true', decide_eq_false_iff_not, hp]
    have fr : Fr [b, l] H H5 := (((f1.trans f2).trans f3).al A).trans f5
    have hz : z = 0 ∨ z = 1 := by omega
    rcases hz with hz | hz
    · subst hz
      exact ⟨_, atI0 _ _, k (.n x) _ ⟨x0, by omega⟩ B5 fr⟩
    · subst hz
      exact ⟨_, atI1 _ _ _, k (.n y) _ ⟨y0, by omega⟩ B5 fr⟩
theorem BoxAt.off {H : Hp} {b l p : Addr} (B : BoxAt H b l) (h : H p = none) : p ∉ [b, l] := by
  obtain ⟨_, _, _, h1, h2, _⟩ := B
  simp only [List.mem_cons, List.not_mem_nil, or_false, not_or]
  exact ⟨fun e => ne_of_none h1 h e.symm, fun e => ne_of_none h2 h e.symm⟩
theorem BoxAt.mu {H H' : Hp} {b l p : Addr} {o : HO} (B : BoxAt H b l) (M : Mu H p o H') (hp : p ∉ [b, l]) : BoxAt H' b l := by
  obtain ⟨ne, ns, s, h1, h2, h3⟩ := B
  simp only [List.mem_cons, List.not_mem_nil, or_false, not_or] at hp
  exact ⟨ne, ns, s, M.k h1 fun e => hp.1 e.symm, M.k h2 fun e => hp.2 e.symm, h3⟩
def Lets (z : Str) : Prop := 0 < z.cps.toList.length ∧ z.cps.toList.length ≤ 26 ∧ ∀ c ∈ z.cps.toList, 97 ≤ c ∧ c < 123
theorem lets3 : Lets ("abz" : Str) := by unfold Lets; decide +kernel
theorem lets26 : Lets ("abcdefghijklmnopqrstuvwxyz" : Str) := by unfold Lets; decide +kernel
theorem slen (z : Str) : z.length = z.cps.toList.length := by
  show z.cps.size = _
  simp
theorem joinL_one : ∀ l : List Nat, TL.joinL [] (l.map fun c => [c]) = l
  | [] => rfl
  | [_] => rfl
  | a :: b :: r => by
    have q := joinL_one (b :: r)
    show [a] ++ ([] ++ TL.joinL [] ((b :: r).map fun c => [c])) = a :: b :: r
    rw [q]
    rfl
theorem tl_empty : TL.tl ("" : Str) = [] := by decide +kernel
/-- letters, joined -/
theorem join_letters (l : List Nat) : Txt.join ("" : Str) (l.map fun c => (⟨#[c]⟩ : Str)) = ⟨l.toArray⟩ := by
  rw [TL.join_eq]
  have h : TL.tl (Str.join ("" : Str) (l.map fun c => (⟨#[c]⟩ : Str))) = l := by
    rw [TL.tl_join, tl_empty, List.map_map]
    exact joinL_one l
  have e : ∀ x : Str, x = ⟨(TL.tl x).toArray⟩ := fun x => by
    show x = ⟨x.cps.toList.toArray⟩
    simp
  rw [e (Str.join _ _), h]
theorem sum_ones (l : List Nat) : ((l.map fun c => (⟨#[c]⟩ : Str)).map (·.length)).sum = l.length := by
  induction l with
  | nil => rfl
  | cons a r ih =>
    rw [List.map_cons, List.map_cons, List.sum_cons, ih]
    show 1 + r.length = r.length + 1
    omega
theorem rd_L_text {K : PySem.W.Frag} {vs : List V} {H : Hp} {Q : VK} {E : XK} (h : sp_L_text vs H Q E) : t_L_text K { nx := fun _ H' => Q .non H', rt := Q } (start ["_", "_", "_", "_"] vs) H := by
  obtain ⟨b, l, rfl, B, k⟩ := h
  show t_L_text K _ [some (.ref b), none, none, none] H
  unfold t_L_text
  refine st_seq ?_
  simp only [tIfS, tRet, tRetN, tAsg, gName, gSub, gCons, gNil, gTup, tDrop, tNext, tVar, tC, tOp, tUn, tTest, tB, tAnd, tOr, tNot, tAndV, tOrV, tNotV, tIf, tCons, tNil, xLst, xTup, xDic, tCB, tCall, tChain, tSl, tPart, tNoPart, rI, rI0, rU, rEq, rNe, scal, rXL, rXT, rXQ, rLenL, rLenT, rLenS, rLenQ, rInt1, rTupL, rLstL, rIsN, rNotN, rInT, rAddS, rLtS, rInS1, rNinS1, rIxS, rSlS, rStL, rCt, rSL, tApp, tPopAt, tPopL, tJoinL, tIndex, xFld, xSet, xMeth, xMake, rGetS, rGetI, rInDS, rInDI, xPutS, xPutI, xGet2S, xGet2I, xPopI, rDctD, rLstD, rCatT, HO.ins.injEq, ixN0, ixN1, ixN2, ixN3, atI0, atI1, atI2, atI3, eqV_str, eqV_int, eqV_is, eqV_si, inV_nil, inV_cons, flatV, List.all_cons, List.all_nil, wd_eq, wd_ne0, wd_ne0', List.getElem?_cons_zero, List.getElem?_cons_succ, List.set_cons_zero, List.set_cons_succ, List.cons_append, List.nil_append, List.append_nil, Nat.reduceAdd, Nat.reduceLT, Option.some.injEq, V.int.injEq, V.str.injEq, V.bl.injEq, V.ref.injEq, HO.lst.injEq, HO.tup.injEq, HO.dK.injEq, List.cons.injEq, exists_eq_left, exists_eq_left', exists_eq_right, exists_eq_right', exists_and_left, exists_and_right, exists_const, exists_eq, exists_eq', and_assoc, true_and, and_true, false_and, and_false, true_or, or_true, false_or, or_false, reduceCtorEq, not_true_eq_false, not_false_eq_true, decide_true, decide_false, decide_eq_true_eq, decide_not, Bool.not_true, Bool.not_false, Bool.false_eq_true, Bool.true_and, Bool.and_true, Bool.false_and, Bool.and_false, Bool.true_or, Bool.or_true, Bool.false_or, Bool.or_false, if_true, if_false, ite_true, ite_false, Nat.reduceEqDiff, exists_false, eq_self, upd_same, Bool.not_eq_true', decide_eq_false_iff_not]
  refine ⟨(by simp only [List.length_cons, List.length_nil]; decide), fun p H1 A1 => ?_⟩
  have B1 := B.keep A1.fr
  refine ⟨b, l, 2, rfl, B1, by decide, by decide, fun r H2 r0 r1 B2 f2 => ?_⟩
  have hp : H2 p = _ := f2.keep _ _ A1.at_ (B.off A1.new)
  have fr2 : Fr [b, l] H H2 := A1.fr.trans f2
  have hl : ∃ z, atI [V.str ("abz" : Str), V.str ("abcdefghijklmnopqrstuvwxyz" : Str)] r = some (.str z) ∧ Lets z := by
    have hz : r = 0 ∨ r = 1 := by omega
    rcases hz with hz | hz
    · subst hz; exact ⟨_, atI0 _ _, lets3⟩
    · subst hz; exact ⟨_, atI1 _ _ _, lets26⟩
  obtain ⟨z, ez, lz⟩ := hl
  simp only [tIfS, tRet, tRetN, tAsg, gName, gSub, gCons, gNil, gTup, tDrop, tNext, tVar, tC, tOp, tUn, tTest, tB, tAnd, tOr, tNot, tAndV, tOrV, tNotV, tIf, tCons, tNil, xLst, xTup, xDic, tCB, tCall, tChain, tSl, tPart, tNoPart, rI, rI0, rU, rEq, rNe, scal, rXL, rXT, rXQ, rLenL, rLenT, rLenS, rLenQ, rInt1, rTupL, rLstL, rIsN, rNotN, rInT, rAddS, rLtS, rInS1, rNinS1, rIxS, rSlS, rStL, rCt, rSL, tApp, tPopAt, tPopL, tJoinL, tIndex, xFld, xSet, xMeth, xMake, rGetS, rGetI, rInDS, rInDI, xPutS, xPutI, xGet2S, xGet2I, xPopI, rDctD, rLstD, rCatT, HO.ins.injEq, ixN0, ixN1, ixN2, ixN3, atI0, atI1, atI2, atI3, eqV_str, eqV_int, eqV_is, eqV_si, inV_nil, inV_cons, flatV, List.all_cons, List.all_nil, wd_eq, wd_ne0, wd_ne0', List.getElem?_cons_zero, List.getElem?_cons_succ, List.set_cons_zero, List.set_cons_succ, List.cons_append, List.nil_append, List.append_nil, Nat.reduceAdd, Nat.reduceLT, Option.some.injEq, V.int.injEq, V.str.injEq, V.bl.injEq, V.ref.injEq, HO.lst.injEq, HO.tup.injEq, HO.dK.injEq, List.cons.injEq, exists_eq_left, exists_eq_left', exists_eq_right, exists_eq_right', exists_and_left, exists_and_right, exists_const, exists_eq, exists_eq', and_assoc, true_and, and_true, false_and, and_false, true_or, or_true, false_or, or_false, reduceCtorEq, not_true_eq_false, not_false_eq_true, decide_true, decide_false, decide_eq_true_eq, decide_not, Bool.not_true, Bool.not_false, Bool.false_eq_true, Bool.true_and, Bool.and_true, Bool.false_and, Bool.and_false, Bool.true_or, Bool.or_true, Bool.false_or, Bool.or_false, if_true, if_false, ite_true, ite_false, Nat.reduceEqDiff, exists_false, eq_self, upd_same, Bool.not_eq_true', decide_eq_false_iff_not, hp, ez]
  refine st_seq ?_
  simp only [tIfS, tRet, tRetN, tAsg, gName, gSub, gCons, gNil, gTup, tDrop, tNext, tVar, tC, tOp, tUn, tTest, tB, tAnd, tOr, tNot, tAndV, tOrV, tNotV, tIf, tCons, tNil, xLst, xTup, xDic, tCB, tCall, tChain, tSl, tPart, tNoPart, rI, rI0, rU, rEq, rNe, scal, rXL, rXT, rXQ, rLenL, rLenT, rLenS, rLenQ, rInt1, rTupL, rLstL, rIsN, rNotN, rInT, rAddS, rLtS, rInS1, rNinS1, rIxS, rSlS, rStL, rCt, rSL, tApp, tPopAt, tPopL, tJoinL, tIndex, xFld, xSet, xMeth, xMake, rGetS, rGetI, rInDS, rInDI, xPutS, xPutI, xGet2S, xGet2I, xPopI, rDctD, rLstD, rCatT, HO.ins.injEq, ixN0, ixN1, ixN2, ixN3, atI0, atI1, atI2, atI3, eqV_str, eqV_int, eqV_is, eqV_si, inV_nil, inV_cons, flatV, List.all_cons, List.all_nil, wd_eq, wd_ne0, wd_ne0', List.getElem?_cons_zero, List.getElem?_cons_succ, List.set_cons_zero, List.set_cons_succ, List.cons_append, List.nil_append, List.append_nil, Nat.reduceAdd, Nat.reduceLT, Option.some.injEq, V.int.injEq, V.str.injEq, V.bl.injEq, V.ref.injEq, HO.lst.injEq, HO.tup.injEq, HO.dK.injEq, List.cons.injEq, exists_eq_left, exists_eq_left', exists_eq_right, exists_eq_right', exists_and_left, exists_and_right, exists_const, exists_eq, exists_eq', and_assoc, true_and, and_true, false_and, and_false, true_or, or_true, false_or, or_false, reduceCtorEq, not_true_eq_false, not_false_eq_true, decide_true, decide_false, decide_eq_true_eq, decide_not, Bool.not_true, Bool.not_false, Bool.false_eq_true, Bool.true_and, Bool.and_true, Bool.false_and, Bool.and_false, Bool.true_or, Bool.or_true, Bool.false_or, Bool.or_false, if_true, if_false, ite_true, ite_false, Nat.reduceEqDiff, exists_false, eq_self, upd_same, Bool.not_eq_true', decide_eq_false_iff_not]
  refine ⟨b, l, 3, rfl, B2, by decide, by decide, fun x H3 x0 x1 B3 f3 => ?_⟩
  refine ⟨b, l, 13, rfl, B3, by decide, by decide, fun y H4 y0 y1 B4 f4 => ?_⟩
  simp only [tIfS, tRet, tRetN, tAsg, gName, gSub, gCons, gNil, gTup, tDrop, tNext, tVar, tC, tOp, tUn, tTest, tB, tAnd, tOr, tNot, tAndV, tOrV, tNotV, tIf, tCons, tNil, xLst, xTup, xDic, tCB, tCall, tChain, tSl, tPart, tNoPart, rI, rI0, rU, rEq, rNe, scal, rXL, rXT, rXQ, rLenL, rLenT, rLenS, rLenQ, rInt1, rTupL, rLstL, rIsN, rNotN, rInT, rAddS, rLtS, rInS1, rNinS1, rIxS, rSlS, rStL, rCt, rSL, tApp, tPopAt, tPopL, tJoinL, tIndex, xFld, xSet, xMeth, xMake, rGetS, rGetI, rInDS, rInDI, xPutS, xPutI, xGet2S, xGet2I, xPopI, rDctD, rLstD, rCatT, HO.ins.injEq, ixN0, ixN1, ixN2, ixN3, atI0, atI1, atI2, atI3, eqV_str, eqV_int, eqV_is, eqV_si, inV_nil, inV_cons, flatV, List.all_cons, List.all_nil, wd_eq, wd_ne0, wd_ne0', List.getElem?_cons_zero, List.getElem?_cons_succ, List.set_cons_zero, List.set_cons_succ, List.cons_append, List.nil_append, List.append_nil, Nat.reduceAdd, Nat.reduceLT, Option.some.injEq, V.int.injEq, V.str.injEq, V.bl.injEq, V.ref.injEq, HO.lst.injEq, HO.tup.injEq, HO.dK.injEq, List.cons.injEq, exists_eq_left, exists_eq_left', exists_eq_right, exists_eq_right', exists_and_left, exists_and_right, exists_const, exists_eq, exists_eq', and_assoc, true_and, and_true, false_and, and_false, true_or, or_true, false_or, or_false, reduceCtorEq, not_true_eq_false, not_false_eq_true, decide_true, decide_false, decide_eq_true_eq, decide_not, Bool.not_true, Bool.not_false, Bool.false_eq_true, Bool.true_and, Bool.and_true, Bool.false_and, Bool.and_false, Bool.true_or, Bool.or_true, Bool.false_or, Bool.or_false, if_true, if_false, ite_true, ite_false, Nat.reduceEqDiff, exists_false, eq_self, upd_same, Bool.not_eq_true', decide_eq_false_iff_not]
  refine ⟨(by simp only [List.length_cons, List.length_nil]; decide), fun p5 H5 A5 => ?_⟩
  refine ⟨b, l, 8, rfl, B4.keep A5.fr, by decide, by decide, fun u H6 u0 u1 B6 f6 => ?_⟩
  have hp6 : H6 p5 = _ := f6.keep _ _ A5.at_ (B4.off A5.new)
  have fr6 : Fr [b, l] H H6 := (((fr2.trans f3).trans f4).al A5).trans f6
  have hl : ∃ m, atI [V.int x, V.int y] (if u = 1 then 1 else 0) = some (.int m) ∧ 0 ≤ m ∧ m < 13 := by
    split
    · exact ⟨_, atI1 _ _ _, y0, y1⟩
    · exact ⟨_, atI0 _ _, x0, by omega⟩
  obtain ⟨m, em, m0, m1⟩ := hl
  simp only [tIfS, tRet, tRetN, tAsg, gName, gSub, gCons, gNil, gTup, tDrop, tNext, tVar, tC, tOp, tUn, tTest, tB, tAnd, tOr, tNot, tAndV, tOrV, tNotV, tIf, tCons, tNil, xLst, xTup, xDic, tCB, tCall, tChain, tSl, tPart, tNoPart, rI, rI0, rU, rEq, rNe, scal, rXL, rXT, rXQ, rLenL, rLenT, rLenS, rLenQ, rInt1, rTupL, rLstL, rIsN, rNotN, rInT, rAddS, rLtS, rInS1, rNinS1, rIxS, rSlS, rStL, rCt, rSL, tApp, tPopAt, tPopL, tJoinL, tIndex, xFld, xSet, xMeth, xMake, rGetS, rGetI, rInDS, rInDI, xPutS, xPutI, xGet2S, xGet2I, xPopI, rDctD, rLstD, rCatT, HO.ins.injEq, ixN0, ixN1, ixN2, ixN3, atI0, atI1, atI2, atI3, eqV_str, eqV_int, eqV_is, eqV_si, inV_nil, inV_cons, flatV, List.all_cons, List.all_nil, wd_eq, wd_ne0, wd_ne0', List.getElem?_cons_zero, List.getElem?_cons_succ, List.set_cons_zero, List.set_cons_succ, List.cons_append, List.nil_append, List.append_nil, Nat.reduceAdd, Nat.reduceLT, Option.some.injEq, V.int.injEq, V.str.injEq, V.bl.injEq, V.ref.injEq, HO.lst.injEq, HO.tup.injEq, HO.dK.injEq, List.cons.injEq, exists_eq_left, exists_eq_left', exists_eq_right, exists_eq_right', exists_and_left, exists_and_right, exists_const, exists_eq, exists_eq', and_assoc, true_and, and_true, false_and, and_false, true_or, or_true, false_or, or_false, reduceCtorEq, not_true_eq_false, not_false_eq_true, decide_true, decide_false, decide_eq_true_eq, decide_not, Bool.not_true, Bool.not_false, Bool.false_eq_true, Bool.true_and, Bool.and_true, Bool.false_and, Bool.and_false, Bool.true_or, Bool.or_true, Bool.false_or, Bool.or_false, if_true, if_false, ite_true, ite_false, Nat.reduceEqDiff, exists_false, eq_self, upd_same, Bool.not_eq_true', decide_eq_false_iff_not, hp6, em]
  refine lcR (n := m) (fun R h => ⟨_, rfl, h⟩) m0 (by omega) fun L hL => ?_
  refine ⟨fun i Hc => ∃ cs : List Nat, cs.length = i ∧ (∀ c ∈ cs, 97 ≤ c ∧ c < 123) ∧ Hc L = some (.lst ((cs.map fun c => (⟨#[c]⟩ : Str)).map V.str)) ∧ BoxAt Hc b l ∧ Fr [b, l] H6 Hc, ?_, ?_, ?_⟩
  · refine ⟨[], rfl, by simp, upd_same, B6.keep (Al.of hL).fr, (Al.of hL).fr⟩
  · rintro i Hc hi ⟨cs, hc1, hc2, hc3, hc4, hc5⟩
    show LcTurn _ _ _ _ _ _ _ _ _
    unfold LcTurn
    simp only [tIfS, tRet, tRetN, tAsg, gName, gSub, gCons, gNil, gTup, tDrop, tNext, tVar, tC, tOp, tUn, tTest, tB, tAnd, tOr, tNot, tAndV, tOrV, tNotV, tIf, tCons, tNil, xLst, xTup, xDic, tCB, tCall, tChain, tSl, tPart, tNoPart, rI, rI0, rU, rEq, rNe, scal, rXL, rXT, rXQ, rLenL, rLenT, rLenS, rLenQ, rInt1, rTupL, rLstL, rIsN, rNotN, rInT, rAddS, rLtS, rInS1, rNinS1, rIxS, rSlS, rStL, rCt, rSL, tApp, tPopAt, tPopL, tJoinL, tIndex, xFld, xSet, xMeth, xMake, rGetS, rGetI, rInDS, rInDI, xPutS, xPutI, xGet2S, xGet2I, xPopI, rDctD, rLstD, rCatT, HO.ins.injEq, ixN0, ixN1, ixN2, ixN3, atI0, atI1, atI2, atI3, eqV_str, eqV_int, eqV_is, eqV_si, inV_nil, inV_cons, flatV, List.all_cons, List.all_nil, wd_eq, wd_ne0, wd_ne0', List.getElem?_cons_zero, List.getElem?_cons_succ, List.set_cons_zero, List.set_cons_succ, List.cons_append, List.nil_append, List.append_nil, Nat.reduceAdd, Nat.reduceLT, Option.some.injEq, V.int.injEq, V.str.injEq, V.bl.injEq, V.ref.injEq, HO.lst.injEq, HO.tup.injEq, HO.dK.injEq, List.cons.injEq, exists_eq_left, exists_eq_left', exists_eq_right, exists_eq_right', exists_and_left, exists_and_right, exists_const, exists_eq, exists_eq', and_assoc, true_and, and_true, false_and, and_false, true_or, or_true, false_or, or_false, reduceCtorEq, not_true_eq_false, not_false_eq_true, decide_true, decide_false, decide_eq_true_eq, decide_not, Bool.not_true, Bool.not_false, Bool.false_eq_true, Bool.true_and, Bool.and_true, Bool.false_and, Bool.and_false, Bool.true_or, Bool.or_true, Bool.false_or, Bool.or_false, if_true, if_false, ite_true, ite_false, Nat.reduceEqDiff, exists_false, eq_self, upd_same, Bool.not_eq_true', decide_eq_false_iff_not, wipe, tYes]
    have zs : z.length ≤ sizeLine := by rw [slen]; exact Nat.le_trans lz.2.1 (by decide)
    refine ⟨zs, b, l, _, rfl, hc4, by rw [slen]; have := lz.1; omega, by rw [slen]; have := lz.2.1; omega, fun r' H7 q0 q1 B7 f7 => ?_⟩
    simp only [tIfS, tRet, tRetN, tAsg, gName, gSub, gCons, gNil, gTup, tDrop, tNext, tVar, tC, tOp, tUn, tTest, tB, tAnd, tOr, tNot, tAndV, tOrV, tNotV, tIf, tCons, tNil, xLst, xTup, xDic, tCB, tCall, tChain, tSl, tPart, tNoPart, rI, rI0, rU, rEq, rNe, scal, rXL, rXT, rXQ, rLenL, rLenT, rLenS, rLenQ, rInt1, rTupL, rLstL, rIsN, rNotN, rInT, rAddS, rLtS, rInS1, rNinS1, rIxS, rSlS, rStL, rCt, rSL, tApp, tPopAt, tPopL, tJoinL, tIndex, xFld, xSet, xMeth, xMake, rGetS, rGetI, rInDS, rInDI, xPutS, xPutI, xGet2S, xGet2I, xPopI, rDctD, rLstD, rCatT, HO.ins.injEq, ixN0, ixN1, ixN2, ixN3, atI0, atI1, atI2, atI3, eqV_str, eqV_int, eqV_is, eqV_si, inV_nil, inV_cons, flatV, List.all_cons, List.all_nil, wd_eq, wd_ne0, wd_ne0', List.getElem?_cons_zero, List.getElem?_cons_succ, List.set_cons_zero, List.set_cons_succ, List.cons_append, List.nil_append, List.append_nil, Nat.reduceAdd, Nat.reduceLT, Option.some.injEq, V.int.injEq, V.str.injEq, V.bl.injEq, V.ref.injEq, HO.lst.injEq, HO.tup.injEq, HO.dK.injEq, List.cons.injEq, exists_eq_left, exists_eq_left', exists_eq_right, exists_eq_right', exists_and_left, exists_and_right, exists_const, exists_eq, exists_eq', and_assoc, true_and, and_true, false_and, and_false, true_or, or_true, false_or, or_false, reduceCtorEq, not_true_eq_false, not_false_eq_true, decide_true, decide_false, decide_eq_true_eq, decide_not, Bool.not_true, Bool.not_false, Bool.false_eq_true, Bool.true_and, Bool.and_true, Bool.false_and, Bool.and_false, Bool.true_or, Bool.or_true, Bool.false_or, Bool.or_false, if_true, if_false, ite_true, ite_false, Nat.reduceEqDiff, exists_false, eq_self, upd_same, Bool.not_eq_true', decide_eq_false_iff_not]
    rw [slen] at q1
    obtain ⟨c, ec, mc⟩ := atI_of q0 q1
    have oL := B6.off hL
    have hL7 : H7 L = _ := f7.keep _ _ hc3 oL
    have M := Mu.of (o := .lst ((cs.map fun c => (⟨#[c]⟩ : Str)).map V.str ++ [.str ⟨#[c]⟩])) hL7 fun _ z => by cases z
    refine ⟨zs, c, ec, _, hL7, ?_, cs ++ [c], ?_, ?_, ?_, B7.mu M oL, (hc5.trans f7).muN M hL⟩
    · simp only [List.length_map]; exact Nat.lt_of_le_of_lt (m := 13) (by omega) (by decide)
    · simp [hc1]
    · intro x hx
      rcases List.mem_append.mp hx with hx | hx
      · exact hc2 x hx
      · rw [List.mem_singleton.mp hx]; exact lz.2.2 c mc
    · simp
  · rintro Hc ⟨cs, hc1, hc2, hc3, hc4, hc5⟩
    refine ⟨L, rfl, _, hc3, ?_, ?_⟩
    · rw [sum_ones, List.length_map]
      show cs.length + cs.length * 0 ≤ _
      omega
    · rw [join_letters]
      exact k _ _ ⟨by simp; omega, by simpa using hc2⟩ hc4 (fr6.trans hc5)
theorem tl12 {z : Str} (h : Txt12 z) : z.length ≤ 12 := by rw [slen]; exact h.1
/-- letters of one that don't stand in the other -/
theorem lc_sub {a c : Str} {σ : L2.St} {H : Hp} {Q : VK} (i1 : σ[1]? = some (some (.str a))) (i2 : σ[2]? = some (some (.str c))) (l3 : 3 < σ.length) (ha : Txt12 a)
    (k : ∀ H', Fr [] H H' → Q (.str (subT a c)) H') : tJoinL (tC (.str ("" : Str))) (tLc (iStr (tVar 1)) (gName 3) (tTest (tOp rNinS1 (tVar 3) (tVar 2))) (tVar 3) [3]) σ H Q := by
  refine ⟨_, rfl, ?_⟩
  refine lcS (z := a) (fun R h => ⟨_, i1, h⟩) fun L hL => ?_
  refine ⟨fun i Hc => ∃ cs : List Nat, cs = (a.cps.toList.take i).filter (fun x => !decide (x ∈ c.cps.toList)) ∧ Hc L = some (.lst ((cs.map fun c => (⟨#[c]⟩ : Str)).map V.str)) ∧ Fr [] H Hc, ?_, ?_, ?_⟩
  · exact ⟨[], by simp, upd_same, (Al.of hL).fr⟩
  · rintro i x Hc hx ⟨cs, h1, h2, h3⟩
    have hlen : i < a.cps.toList.length := (List.getElem?_eq_some_iff.mp hx).1
    have tk : a.cps.toList.take (i + 1) = a.cps.toList.take i ++ [x] := by rw [List.take_succ, hx]; rfl
    refine ⟨by simp [wipe, List.set_set], ?_⟩
    have g3 : ((wipe σ [3]).set 3 (some (V.str ⟨#[x]⟩)))[3]? = some (some (V.str ⟨#[x]⟩)) := by simp [wipe, l3]
    have g2 : ((wipe σ [3]).set 3 (some (V.str ⟨#[x]⟩)))[2]? = some (some (V.str c)) := by simp [wipe, i2]
    refine ⟨_, g3, _, g2, x, c, rfl, rfl, _, rfl, ?_⟩
    by_cases hm : x ∈ c.cps.toList
    · rw [decide_eq_true hm]
      refine iteF ⟨cs, ?_, h2, h3⟩
      rw [tk, List.filter_append, ← h1, List.filter_cons, decide_eq_true hm]
      simp
    · rw [decide_eq_false hm]
      refine iteT ⟨_, g3, _, h2, ?_, cs ++ [x], ?_, ?_, ?_⟩
      · have := List.length_filter_le (fun x => !decide (x ∈ c.cps.toList)) (a.cps.toList.take i)
        rw [← h1] at this
        have h12 := ha.1
        simp only [List.length_map]
        rw [List.length_take] at this
        exact Nat.lt_of_le_of_lt (m := 12) (by omega) (by decide)
      · rw [tk, List.filter_append, ← h1, List.filter_cons, decide_eq_false hm]
        rfl
      · rw [upd_same]; simp
      · exact h3.muN (Mu.of h2 fun _ z => by cases z) hL
  · rintro Hc ⟨cs, h1, h2, h3⟩
    rw [List.take_length] at h1
    refine ⟨L, _, rfl, h2, ?_, ?_⟩
    · have := List.length_filter_le (fun x => !decide (x ∈ c.cps.toList)) a.cps.toList
      rw [← h1] at this
      have h12 := ha.1
      rw [sum_ones, List.length_map]
      show cs.length + cs.length * 0 ≤ _
      omega
    · rw [join_letters, h1]
      exact k _ h3
theorem rd_of_texts {K : PySem.W.Frag} {vs : List V} {H : Hp} {Q : VK} {E : XK} (h : sp_of_texts vs H Q E) : t_of_texts K { nx := fun _ H' => Q .non H', rt := Q } (start ["_", "_", "_", "_"] vs) H := by
  obtain ⟨s, a, b, rfl, hs, ha, hb, k⟩ := h
  show t_of_texts K _ [some (.str s.s), some (.str a), some (.str b), none] H
  unfold t_of_texts
  have z1 := tl12 ha
  have z2 := tl12 hb
  refine st_seq ?_
  cases s with
  | add =>
    simp only [tIfS, tTest, tOp, tVar, tC, rEq]
    simp only [tIfS, tRet, tRetN, tAsg, gName, gSub, gCons, gNil, gTup, tDrop, tNext, tVar, tC, tOp, tUn, tTest, tB, tAnd, tOr, tNot, tAndV, tOrV, tNotV, tIf, tCons, tNil, xLst, xTup, xDic, tCB, tCall, tChain, tSl, tPart, tNoPart, rI, rI0, rU, rEq, rNe, scal, rXL, rXT, rXQ, rLenL, rLenT, rLenS, rLenQ, rInt1, rTupL, rLstL, rIsN, rNotN, rInT, rAddS, rLtS, rInS1, rNinS1, rIxS, rSlS, rStL, rCt, rSL, tApp, tPopAt, tPopL, tJoinL, tIndex, xFld, xSet, xMeth, xMake, rGetS, rGetI, rInDS, rInDI, xPutS, xPutI, xGet2S, xGet2I, xPopI, rDctD, rLstD, rCatT, HO.ins.injEq, ixN0, ixN1, ixN2, ixN3, atI0, atI1, atI2, atI3, eqV_str, eqV_int, eqV_is, eqV_si, inV_nil, inV_cons, flatV, List.all_cons, List.all_nil, wd_eq, wd_ne0, wd_ne0', List.getElem?_cons_zero, List.getElem?_cons_succ, List.set_cons_zero, List.set_cons_succ, List.cons_append, List.nil_append, List.append_nil, Nat.reduceAdd, Nat.reduceLT, Option.some.injEq, V.int.injEq, V.str.injEq, V.bl.injEq, V.ref.injEq, HO.lst.injEq, HO.tup.injEq, HO.dK.injEq, List.cons.injEq, exists_eq_left, exists_eq_left', exists_eq_right, exists_eq_right', exists_and_left, exists_and_right, exists_const, exists_eq, exists_eq', and_assoc, true_and, and_true, false_and, and_false, true_or, or_true, false_or, or_false, reduceCtorEq, not_true_eq_false, not_false_eq_true, decide_true, decide_false, decide_eq_true_eq, decide_not, Bool.not_true, Bool.not_false, Bool.false_eq_true, Bool.true_and, Bool.and_true, Bool.false_and, Bool.and_false, Bool.true_or, Bool.or_true, Bool.false_or, Bool.or_false, if_true, if_false, ite_true, ite_false, Nat.reduceEqDiff, exists_false, eq_self, upd_same, Bool.not_eq_true', decide_eq_false_iff_not, Sg.s, Sg.ix]
    have z3 : (a ++ b).length ≤ sizeLine := by
      rw [slen, show (a ++ b).cps.toList = a.cps.toList ++ b.cps.toList from TL.tl_append a b, List.length_append, ← slen, ← slen]
      exact Nat.le_trans (m := 24) (by omega) (by decide)
    exact ⟨Nat.le_trans (m := 24) (by omega) (by decide), z3, k H (.refl _ _)⟩
  | sub =>
    simp only [tIfS, tTest, tOp, tVar, tC, rEq]
    refine ⟨_, rfl, rfl, _, rfl, ?_⟩
    refine ite2 (fun e => absurd (of_decide_eq_true e) (by simp [Sg.s, Sg.ix, wd_eq])) fun _ => ?_
    refine st_seq ⟨_, rfl, rfl, _, rfl, ite2 (fun _ => ?_) fun e => absurd (show decide (V.str _ = V.str _) = true from decide_eq_true rfl) e⟩
    exact lc_sub rfl rfl (by simp) ha k
  | less =>
    simp only [tIfS, tTest, tOp, tVar, tC, rEq]
    refine ⟨_, rfl, rfl, _, rfl, ?_⟩
    refine ite2 (fun e => absurd (of_decide_eq_true e) (by simp [Sg.s, Sg.ix, wd_eq])) fun _ => ?_
    refine st_seq ⟨_, rfl, rfl, _, rfl, ite2 (fun e => absurd (of_decide_eq_true e) (by simp [Sg.s, Sg.ix, wd_eq])) fun _ => ?_⟩
    have k0 := k H (.refl _ _)
    simp only [tIfS, tRet, tRetN, tAsg, gName, gSub, gCons, gNil, gTup, tDrop, tNext, tVar, tC, tOp, tUn, tTest, tB, tAnd, tOr, tNot, tAndV, tOrV, tNotV, tIf, tCons, tNil, xLst, xTup, xDic, tCB, tCall, tChain, tSl, tPart, tNoPart, rI, rI0, rU, rEq, rNe, scal, rXL, rXT, rXQ, rLenL, rLenT, rLenS, rLenQ, rInt1, rTupL, rLstL, rIsN, rNotN, rInT, rAddS, rLtS, rInS1, rNinS1, rIxS, rSlS, rStL, rCt, rSL, tApp, tPopAt, tPopL, tJoinL, tIndex, xFld, xSet, xMeth, xMake, rGetS, rGetI, rInDS, rInDI, xPutS, xPutI, xGet2S, xGet2I, xPopI, rDctD, rLstD, rCatT, HO.ins.injEq, ixN0, ixN1, ixN2, ixN3, atI0, atI1, atI2, atI3, eqV_str, eqV_int, eqV_is, eqV_si, inV_nil, inV_cons, flatV, List.all_cons, List.all_nil, wd_eq, wd_ne0, wd_ne0', List.getElem?_cons_zero, List.getElem?_cons_succ, List.set_cons_zero, List.set_cons_succ, List.cons_append, List.nil_append, List.append_nil, Nat.reduceAdd, Nat.reduceLT, Option.some.injEq, V.int.injEq, V.str.injEq, V.bl.injEq, V.ref.injEq, HO.lst.injEq, HO.tup.injEq, HO.dK.injEq, List.cons.injEq, exists_eq_left, exists_eq_left', exists_eq_right, exists_eq_right', exists_and_left, exists_and_right, exists_const, exists_eq, exists_eq', and_assoc, true_and, and_true, false_and, and_false, true_or, or_true, false_or, or_false, reduceCtorEq, not_true_eq_false, not_false_eq_true, decide_true, decide_false, decide_eq_true_eq, decide_not, Bool.not_true, Bool.not_false, Bool.false_eq_true, Bool.true_and, Bool.and_true, Bool.false_and, Bool.and_false, Bool.true_or, Bool.or_true, Bool.false_or, Bool.or_false, if_true, if_false, ite_true, ite_false, Nat.reduceEqDiff, exists_false, eq_self, upd_same, Bool.not_eq_true', decide_eq_false_iff_not]
    simpa [ov, wk, Vl.v, b2n] using k0
  | same => exact absurd rfl hs
theorem rd_L_of_texts {K : PySem.W.Frag} {vs : List V} {H : Hp} {Q : VK} {E : XK} (h : sp_L_of_texts vs H Q E) : t_L_of_texts K { nx := fun _ H' => Q .non H', rt := Q } (start ["_", "_", "_", "_"] vs) H := by
  obtain ⟨s, a, b, rfl, hs, ha, hb, k⟩ := h
  show t_L_of_texts K _ [some (.str s.s), some (.str a), some (.str b), none] H
  unfold t_L_of_texts
  have z1 := tl12 ha
  have z2 := tl12 hb
  refine st_seq ?_
  cases s with
  | add =>
    simp only [tIfS, tTest, tOp, tVar, tC, rEq]
    simp only [tIfS, tRet, tRetN, tAsg, gName, gSub, gCons, gNil, gTup, tDrop, tNext, tVar, tC, tOp, tUn, tTest, tB, tAnd, tOr, tNot, tAndV, tOrV, tNotV, tIf, tCons, tNil, xLst, xTup, xDic, tCB, tCall, tChain, tSl, tPart, tNoPart, rI, rI0, rU, rEq, rNe, scal, rXL, rXT, rXQ, rLenL, rLenT, rLenS, rLenQ, rInt1, rTupL, rLstL, rIsN, rNotN, rInT, rAddS, rLtS, rInS1, rNinS1, rIxS, rSlS, rStL, rCt, rSL, tApp, tPopAt, tPopL, tJoinL, tIndex, xFld, xSet, xMeth, xMake, rGetS, rGetI, rInDS, rInDI, xPutS, xPutI, xGet2S, xGet2I, xPopI, rDctD, rLstD, rCatT, HO.ins.injEq, ixN0, ixN1, ixN2, ixN3, atI0, atI1, atI2, atI3, eqV_str, eqV_int, eqV_is, eqV_si, inV_nil, inV_cons, flatV, List.all_cons, List.all_nil, wd_eq, wd_ne0, wd_ne0', List.getElem?_cons_zero, List.getElem?_cons_succ, List.set_cons_zero, List.set_cons_succ, List.cons_append, List.nil_append, List.append_nil, Nat.reduceAdd, Nat.reduceLT, Option.some.injEq, V.int.injEq, V.str.injEq, V.bl.injEq, V.ref.injEq, HO.lst.injEq, HO.tup.injEq, HO.dK.injEq, List.cons.injEq, exists_eq_left, exists_eq_left', exists_eq_right, exists_eq_right', exists_and_left, exists_and_right, exists_const, exists_eq, exists_eq', and_assoc, true_and, and_true, false_and, and_false, true_or, or_true, false_or, or_false, reduceCtorEq, not_true_eq_false, not_false_eq_true, decide_true, decide_false, decide_eq_true_eq, decide_not, Bool.not_true, Bool.not_false, Bool.false_eq_true, Bool.true_and, Bool.and_true, Bool.false_and, Bool.and_false, Bool.true_or, Bool.or_true, Bool.false_or, Bool.or_false, if_true, if_false, ite_true, ite_false, Nat.reduceEqDiff, exists_false, eq_self, upd_same, Bool.not_eq_true', decide_eq_false_iff_not, Sg.s, Sg.ix]
    have z3 : (a ++ b).length ≤ sizeLine := by
      rw [slen, show (a ++ b).cps.toList = a.cps.toList ++ b.cps.toList from TL.tl_append a b, List.length_append, ← slen, ← slen]
      exact Nat.le_trans (m := 24) (by omega) (by decide)
    exact ⟨Nat.le_trans (m := 24) (by omega) (by decide), z3, k H (.refl _ _)⟩
  | sub =>
    simp only [tIfS, tTest, tOp, tVar, tC, rEq]
    refine ⟨_, rfl, rfl, _, rfl, ?_⟩
    refine ite2 (fun e => absurd (of_decide_eq_true e) (by simp [Sg.s, Sg.ix, wd_eq])) fun _ => ?_
    refine st_seq ⟨_, rfl, rfl, _, rfl, ite2 (fun e => absurd (of_decide_eq_true e) (by simp [Sg.s, Sg.ix, wd_eq])) fun _ => ?_⟩
    exact lc_sub rfl rfl (by simp) ha k
  | less =>
    simp only [tIfS, tTest, tOp, tVar, tC, rEq]
    refine ⟨_, rfl, rfl, _, rfl, ?_⟩
    refine ite2 (fun e => absurd (of_decide_eq_true e) (by simp [Sg.s, Sg.ix, wd_eq])) fun _ => ?_
    refine st_seq ⟨_, rfl, rfl, _, rfl, ite2 (fun _ => ?_) fun e => absurd (show decide (V.str _ = V.str _) = true from decide_eq_true rfl) e⟩
    have k0 := k H (.refl _ _)
    simp only [tIfS, tRet, tRetN, tAsg, gName, gSub, gCons, gNil, gTup, tDrop, tNext, tVar, tC, tOp, tUn, tTest, tB, tAnd, tOr, tNot, tAndV, tOrV, tNotV, tIf, tCons, tNil, xLst, xTup, xDic, tCB, tCall, tChain, tSl, tPart, tNoPart, rI, rI0, rU, rEq, rNe, scal, rXL, rXT, rXQ, rLenL, rLenT, rLenS, rLenQ, rInt1, rTupL, rLstL, rIsN, rNotN, rInT, rAddS, rLtS, rInS1, rNinS1, rIxS, rSlS, rStL, rCt, rSL, tApp, tPopAt, tPopL, tJoinL, tIndex, xFld, xSet, xMeth, xMake, rGetS, rGetI, rInDS, rInDI, xPutS, xPutI, xGet2S, xGet2I, xPopI, rDctD, rLstD, rCatT, HO.ins.injEq, ixN0, ixN1, ixN2, ixN3, atI0, atI1, atI2, atI3, eqV_str, eqV_int, eqV_is, eqV_si, inV_nil, inV_cons, flatV, List.all_cons, List.all_nil, wd_eq, wd_ne0, wd_ne0', List.getElem?_cons_zero, List.getElem?_cons_succ, List.set_cons_zero, List.set_cons_succ, List.cons_append, List.nil_append, List.append_nil, Nat.reduceAdd, Nat.reduceLT, Option.some.injEq, V.int.injEq, V.str.injEq, V.bl.injEq, V.ref.injEq, HO.lst.injEq, HO.tup.injEq, HO.dK.injEq, List.cons.injEq, exists_eq_left, exists_eq_left', exists_eq_right, exists_eq_right', exists_and_left, exists_and_right, exists_const, exists_eq, exists_eq', and_assoc, true_and, and_true, false_and, and_false, true_or, or_true, false_or, or_false, reduceCtorEq, not_true_eq_false, not_false_eq_true, decide_true, decide_false, decide_eq_true_eq, decide_not, Bool.not_true, Bool.not_false, Bool.false_eq_true, Bool.true_and, Bool.and_true, Bool.false_and, Bool.and_false, Bool.true_or, Bool.or_true, Bool.false_or, Bool.or_false, if_true, if_false, ite_true, ite_false, Nat.reduceEqDiff, exists_false, eq_self, upd_same, Bool.not_eq_true', decide_eq_false_iff_not]
    simpa [ov, wk, Vl.v, b2n] using k0
  | same => exact absurd rfl hs
/-! ### the script, stirred -/
theorem Fr.sqL {K : PySem.W.Frag} {H H1 : Hp} {a : Addr} {xs : List V} (f : Fr [] H H1) (h : SqL K H a xs) : SqL K H1 a xs := by
  rcases h with (h | ⟨o, h⟩) | h
  · exact .inl (.inl (f.keep _ _ h (by simp)))
  · exact .inl (.inr ⟨o, f.keep _ _ h (by simp)⟩)
  · exact .inr h
theorem sum_nonneg : ∀ {l : List Int}, (∀ x ∈ l, 0 ≤ x) → 0 ≤ l.sum
  | [], _ => Int.le_refl 0
  | a :: r, h => by
    rw [List.sum_cons]
    have h1 := h a (List.mem_cons_self ..)
    have h2 := sum_nonneg (l := r) fun x hx => h x (List.mem_cons_of_mem _ hx)
    omega
theorem rd_L_script {K : PySem.W.Frag} {vs : List V} {H : Hp} {Q : VK} {E : XK} (h : sp_L_script K vs H Q E) : t_L_script K { nx := fun _ H' => Q .non H', rt := Q } (start ["_", "_", "_", "_"] vs) H := by
  obtain ⟨a, ns, rfl, hS, hl, k⟩ := h
  show t_L_script K _ [some (.ref a), none, none, none] H
  unfold t_L_script
  refine st_seq ?_
  simp only [tIfS, tRet, tRetN, tAsg, gName, gSub, gCons, gNil, gTup, tDrop, tNext, tVar, tC, tOp, tUn, tTest, tB, tAnd, tOr, tNot, tAndV, tOrV, tNotV, tIf, tCons, tNil, xLst, xTup, xDic, tCB, tCall, tChain, tSl, tPart, tNoPart, rI, rI0, rU, rEq, rNe, scal, rXL, rXT, rXQ, rLenL, rLenT, rLenS, rLenQ, rInt1, rTupL, rLstL, rIsN, rNotN, rInT, rAddS, rLtS, rInS1, rNinS1, rIxS, rSlS, rStL, rCt, rSL, tApp, tPopAt, tPopL, tJoinL, tIndex, xFld, xSet, xMeth, xMake, rGetS, rGetI, rInDS, rInDI, xPutS, xPutI, xGet2S, xGet2I, xPopI, rDctD, rLstD, rCatT, HO.ins.injEq, ixN0, ixN1, ixN2, ixN3, atI0, atI1, atI2, atI3, eqV_str, eqV_int, eqV_is, eqV_si, inV_nil, inV_cons, flatV, List.all_cons, List.all_nil, wd_eq, wd_ne0, wd_ne0', List.getElem?_cons_zero, List.getElem?_cons_succ, List.set_cons_zero, List.set_cons_succ, List.cons_append, List.nil_append, List.append_nil, Nat.reduceAdd, Nat.reduceLT, Option.some.injEq, V.int.injEq, V.str.injEq, V.bl.injEq, V.ref.injEq, HO.lst.injEq, HO.tup.injEq, HO.dK.injEq, List.cons.injEq, exists_eq_left, exists_eq_left', exists_eq_right, exists_eq_right', exists_and_left, exists_and_right, exists_const, exists_eq, exists_eq', and_assoc, true_and, and_true, false_and, and_false, true_or, or_true, false_or, or_false, reduceCtorEq, not_true_eq_false, not_false_eq_true, decide_true, decide_false, decide_eq_true_eq, decide_not, Bool.not_true, Bool.not_false, Bool.false_eq_true, Bool.true_and, Bool.and_true, Bool.false_and, Bool.and_false, Bool.true_or, Bool.or_true, Bool.false_or, Bool.or_false, if_true, if_false, ite_true, ite_false, Nat.reduceEqDiff, exists_false, eq_self, upd_same, Bool.not_eq_true', decide_eq_false_iff_not]
  refine ⟨_, rfl, a, _, rfl, hS, fun L hL => ?_⟩
  refine lc_it (walk_enum (xs := ns.map V.int)) (fun i Hc => ∃ ms : List Int, ms.length = i ∧ Hc L = some (.lst (ms.map V.int)) ∧ Fr [] H Hc) ?_ ?_ ?_ ?_
  · exact ⟨[], rfl, upd_same, (Al.of hL).fr⟩
  · rintro i Hc _ ⟨ms, h1, h2, h3⟩
    exact h3.sqL hS
  · rintro i x Hc H' hi ⟨ms, h1, h2, h3⟩ ⟨T, x1, x2, rfl, hT, rfl, e1, e2⟩
    cases e1
    replace e2 : (ns.map V.int)[i]? = some x2 := e2
    rw [List.getElem?_map] at e2
    cases en : ns[i]? with
    | none => rw [en] at e2; cases e2
    | some n =>
      rw [en] at e2
      cases e2
      have A := Al.of (o := .tup [.int (i : Int), .int n]) hT
      rw [List.length_map] at hi
      refine ⟨T, _, rfl, SqT.of A.at_, rfl, ?_⟩
      simp only [tIfS, tRet, tRetN, tAsg, gName, gSub, gCons, gNil, gTup, tDrop, tNext, tVar, tC, tOp, tUn, tTest, tB, tAnd, tOr, tNot, tAndV, tOrV, tNotV, tIf, tCons, tNil, xLst, xTup, xDic, tCB, tCall, tChain, tSl, tPart, tNoPart, rI, rI0, rU, rEq, rNe, scal, rXL, rXT, rXQ, rLenL, rLenT, rLenS, rLenQ, rInt1, rTupL, rLstL, rIsN, rNotN, rInT, rAddS, rLtS, rInS1, rNinS1, rIxS, rSlS, rStL, rCt, rSL, tApp, tPopAt, tPopL, tJoinL, tIndex, xFld, xSet, xMeth, xMake, rGetS, rGetI, rInDS, rInDI, xPutS, xPutI, xGet2S, xGet2I, xPopI, rDctD, rLstD, rCatT, HO.ins.injEq, ixN0, ixN1, ixN2, ixN3, atI0, atI1, atI2, atI3, eqV_str, eqV_int, eqV_is, eqV_si, inV_nil, inV_cons, flatV, List.all_cons, List.all_nil, wd_eq, wd_ne0, wd_ne0', List.getElem?_cons_zero, List.getElem?_cons_succ, List.set_cons_zero, List.set_cons_succ, List.cons_append, List.nil_append, List.append_nil, Nat.reduceAdd, Nat.reduceLT, Option.some.injEq, V.int.injEq, V.str.injEq, V.bl.injEq, V.ref.injEq, HO.lst.injEq, HO.tup.injEq, HO.dK.injEq, List.cons.injEq, exists_eq_left, exists_eq_left', exists_eq_right, exists_eq_right', exists_and_left, exists_and_right, exists_const, exists_eq, exists_eq', and_assoc, true_and, and_true, false_and, and_false, true_or, or_true, false_or, or_false, reduceCtorEq, not_true_eq_false, not_false_eq_true, decide_true, decide_false, decide_eq_true_eq, decide_not, Bool.not_true, Bool.not_false, Bool.false_eq_true, Bool.true_and, Bool.and_true, Bool.false_and, Bool.and_false, Bool.true_or, Bool.or_true, Bool.false_or, Bool.or_false, if_true, if_false, ite_true, ite_false, Nat.reduceEqDiff, exists_false, eq_self, upd_same, Bool.not_eq_true', decide_eq_false_iff_not, wipe, tYes]
      have c1 : (0 : Int) ≤ n % 69621 := Int.emod_nonneg _ (by decide)
      have c2 : n % 69621 < 69621 := Int.emod_lt_of_pos _ (by decide)
      refine ⟨by decide, .inl ⟨by omega, by omega⟩, _, A.k h2, ?_, ms ++ [((i : Int) + 1) * (n % 69621)], ?_, ?_, ?_⟩
      · rw [List.length_map, h1]; exact Nat.lt_of_lt_of_le (m := 64) (by omega) (by decide)
      · simp [h1]
      · simp
      · exact (h3.al A).muN (Mu.of (A.k h2) fun _ z => by cases z) hL
  · rintro Hc ⟨ms, h1, h2, h3⟩
    refine ⟨L, ms, rfl, SqL.of h2, _, rfl, by decide, ?_⟩
    refine ⟨a, _, rfl, .inl (h3.sqL hS), fun l2 H2 A => ?_⟩
    refine ⟨a, _, rfl, .inl ((h3.al A).sqL hS), _, rfl, ?_⟩
    have g0 : 0 ≤ ms.sum % 2147483647 := Int.emod_nonneg _ (by decide)
    have g1 : ms.sum % 2147483647 < 2147483647 := Int.emod_lt_of_pos _ (by decide)
    refine ⟨.inl ⟨by omega, by omega⟩, (by simp only [List.length_cons, List.length_nil]; decide), fun b H3 A3 => ?_⟩
    refine k b l2 H3 ⟨fun e => ?_, ns, _, A3.at_, A3.k A.at_, ?_, ?_⟩ ((h3.al A).al A3)
    · rw [e] at A3; have := A3.new; rw [A.at_] at this; cases this
    · split <;> omega
    · split <;> omega
theorem sg4 {z : Int} (h0 : 0 ≤ z) (h1 : z < 4) : ∃ s : Sg, atI [V.str (wd 3), V.str (wd 4), V.str (wd 5), V.str (wd 6)] z = some (.str s.s) := by
  have hz : z = 0 ∨ z = 1 ∨ z = 2 ∨ z = 3 := by omega
  rcases hz with hz | hz | hz | hz <;> subst hz
  · exact ⟨.add, atI0 _ _⟩
  · exact ⟨.sub, atI1 _ _ _⟩
  · exact ⟨.less, atI2 _ _ _ _⟩
  · exact ⟨.same, atI3 _ _ _ _ _⟩
/-! ### isinstance by shapes -/
def tyIs (H : Hp) (x : V) (n : String) : Prop := match x with
  | .non => n = "NoneType"
  | .bl _ => n = "bool"
  | .int _ => n = "int"
  | .str _ => n = "str"
  | .ref a => (match H a with
    | some (.lst _) => n = "list"
    | some (.tup _) => n = "tuple"
    | some (.dK _) => n = "dict"
    | _ => False)
  | _ => False
theorem tyIs.uni {H : Hp} {x : V} {n m : String} (h : tyIs H x n) (h' : tyIs H x m) : n = m := by
  unfold tyIs at h h'
  cases x with
  | ref a =>
    simp only at h h'
    split at h <;> first | exact h.elim | (rename_i e; simp only [e] at h'; rw [h, h'])
  | non => rw [h, h']
  | bl _ => rw [h, h']
  | int _ => rw [h, h']
  | str _ => rw [h, h']
  | _ => exact h.elim
theorem is_eq {H : Hp} {x : V} {n T : String} {b : Bool} {Q : VK} (hn : tyIs H x n) (hk : kitB n T = some b) : rIs T [x, .ty T] H Q = Q (.bl b) H := by
  refine propext ⟨?_, fun q => ⟨_, _, rfl, ⟨n, hn, hk⟩, q⟩⟩
  rintro ⟨y, b', e, ⟨m, hm, hk'⟩, q⟩
  have e' := (List.cons.inj e).1
  subst e'
  have hm' : tyIs H x m := hm
  have e2 := hn.uni hm'
  subst e2
  rw [hk] at hk'
  cases hk'
  exact q
theorem tyIs.lst {H : Hp} {a : Addr} {xs : List V} (h : H a = some (.lst xs)) : tyIs H (.ref a) "list" := by unfold tyIs; simp only [h]
theorem tyIs.tup {H : Hp} {a : Addr} {xs : List V} (h : H a = some (.tup xs)) : tyIs H (.ref a) "tuple" := by unfold tyIs; simp only [h]
theorem tyIs.dic {H : Hp} {a : Addr} {xs : List (Key × V)} (h : H a = some (.dK xs)) : tyIs H (.ref a) "dict" := by unfold tyIs; simp only [h]
section
variable {H : Hp} {a : Addr} {xs : List V} {i : Int} {z : Str} {b : Bool} {Q : VK}
theorem is_NoneType_bool : rIs "bool" [.non, .ty "bool"] H Q = Q (.bl false) H := is_eq (show tyIs H (.non) "NoneType" from rfl) (by decide +kernel)
theorem is_NoneType_int : rIs "int" [.non, .ty "int"] H Q = Q (.bl false) H := is_eq (show tyIs H (.non) "NoneType" from rfl) (by decide +kernel)
theorem is_NoneType_str : rIs "str" [.non, .ty "str"] H Q = Q (.bl false) H := is_eq (show tyIs H (.non) "NoneType" from rfl) (by decide +kernel)
theorem is_NoneType_list : rIs "list" [.non, .ty "list"] H Q = Q (.bl false) H := is_eq (show tyIs H (.non) "NoneType" from rfl) (by decide +kernel)
theorem is_NoneType_tuple : rIs "tuple" [.non, .ty "tuple"] H Q = Q (.bl false) H := is_eq (show tyIs H (.non) "NoneType" from rfl) (by decide +kernel)
theorem is_bool_bool : rIs "bool" [.bl b, .ty "bool"] H Q = Q (.bl true) H := is_eq (show tyIs H (.bl b) "bool" from rfl) (by decide +kernel)
theorem is_bool_int : rIs "int" [.bl b, .ty "int"] H Q = Q (.bl true) H := is_eq (show tyIs H (.bl b) "bool" from rfl) (by decide +kernel)
theorem is_bool_str : rIs "str" [.bl b, .ty "str"] H Q = Q (.bl false) H := is_eq (show tyIs H (.bl b) "bool" from rfl) (by decide +kernel)
theorem is_bool_list : rIs "list" [.bl b, .ty "list"] H Q = Q (.bl false) H := is_eq (show tyIs H (.bl b) "bool" from rfl) (by decide +kernel)
theorem is_bool_tuple : rIs "tuple" [.bl b, .ty "tuple"] H Q = Q (.bl false) H := is_eq (show tyIs H (.bl b) "bool" from rfl) (by decide +kernel)
theorem is_int_bool : rIs "bool" [.int i, .ty "bool"] H Q = Q (.bl false) H := is_eq (show tyIs H (.int i) "int" from rfl) (by decide +kernel)
theorem is_int_int : rIs "int" [.int i, .ty "int"] H Q = Q (.bl true) H := is_eq (show tyIs H (.int i) "int" from rfl) (by decide +kernel)
theorem is_int_str : rIs "str" [.int i, .ty "str"] H Q = Q (.bl false) H := is_eq (show tyIs H (.int i) "int" from rfl) (by decide +kernel)
theorem is_int_list : rIs "list" [.int i, .ty "list"] H Q = Q (.bl false) H := is_eq (show tyIs H (.int i) "int" from rfl) (by decide +kernel)
theorem is_int_tuple : rIs "tuple" [.int i, .ty "tuple"] H Q = Q (.bl false) H := is_eq (show tyIs H (.int i) "int" from rfl) (by decide +kernel)
theorem is_str_bool : rIs "bool" [.str z, .ty "bool"] H Q = Q (.bl false) H := is_eq (show tyIs H (.str z) "str" from rfl) (by decide +kernel)
theorem is_str_int : rIs "int" [.str z, .ty "int"] H Q = Q (.bl false) H := is_eq (show tyIs H (.str z) "str" from rfl) (by decide +kernel)
theorem is_str_str : rIs "str" [.str z, .ty "str"] H Q = Q (.bl true) H := is_eq (show tyIs H (.str z) "str" from rfl) (by decide +kernel)
theorem is_str_list : rIs "list" [.str z, .ty "list"] H Q = Q (.bl false) H := is_eq (show tyIs H (.str z) "str" from rfl) (by decide +kernel)
theorem is_str_tuple : rIs "tuple" [.str z, .ty "tuple"] H Q = Q (.bl false) H := is_eq (show tyIs H (.str z) "str" from rfl) (by decide +kernel)
theorem is_list_bool (h : H a = some (.lst xs)) : rIs "bool" [.ref a, .ty "bool"] H Q = Q (.bl false) H := is_eq (tyIs.lst h) (by decide +kernel)
theorem is_list_int (h : H a = some (.lst xs)) : rIs "int" [.ref a, .ty "int"] H Q = Q (.bl false) H := is_eq (tyIs.lst h) (by decide +kernel)
theorem is_list_str (h : H a = some (.lst xs)) : rIs "str" [.ref a, .ty "str"] H Q = Q (.bl false) H := is_eq (tyIs.lst h) (by decide +kernel)
theorem is_list_list (h : H a = some (.lst xs)) : rIs "list" [.ref a, .ty "list"] H Q = Q (.bl true) H := is_eq (tyIs.lst h) (by decide +kernel)
theorem is_list_tuple (h : H a = some (.lst xs)) : rIs "tuple" [.ref a, .ty "tuple"] H Q = Q (.bl false) H := is_eq (tyIs.lst h) (by decide +kernel)
theorem is_tuple_bool (h : H a = some (.tup xs)) : rIs "bool" [.ref a, .ty "bool"] H Q = Q (.bl false) H := is_eq (tyIs.tup h) (by decide +kernel)
theorem is_tuple_int (h : H a = some (.tup xs)) : rIs "int" [.ref a, .ty "int"] H Q = Q (.bl false) H := is_eq (tyIs.tup h) (by decide +kernel)
theorem is_tuple_str (h : H a = some (.tup xs)) : rIs "str" [.ref a, .ty "str"] H Q = Q (.bl false) H := is_eq (tyIs.tup h) (by decide +kernel)
theorem is_tuple_list (h : H a = some (.tup xs)) : rIs "list" [.ref a, .ty "list"] H Q = Q (.bl false) H := is_eq (tyIs.tup h) (by decide +kernel)
theorem is_tuple_tuple (h : H a = some (.tup xs)) : rIs "tuple" [.ref a, .ty "tuple"] H Q = Q (.bl true) H := is_eq (tyIs.tup h) (by decide +kernel)
end
theorem RpAll.item {H : Hp} {vs : List V} {ds : List PyData} {i : Nat} (r : RpAll H vs ds) (h : i < ds.length) : ∃ v, vs[i]? = some v ∧ Rp H v ds[i] := r.get (List.getElem?_eq_getElem h)
theorem depth_lt_list {ds : List PyData} {n : Nat} (h : PyData.depthAll ds < n) : ∀ d ∈ ds, d.depth < n := by
  induction ds with
  | nil => intro d hd; cases hd
  | cons a r ih =>
    simp only [PyData.depthAll] at h
    intro d hd
    rcases List.mem_cons.mp hd with rfl | hd
    · omega
    · exact ih (by omega) d hd
/-- the items, one by one -/
theorem alike_loop {n : Nat} {x y : Addr} {xs ys : List V} {ds : List PyData} {H : Hp} {Q : VK} (hx : H x = some (.lst xs) ∨ H x = some (.tup xs)) (hy : H y = some (.lst ys) ∨ H y = some (.tup ys)) (rx : RpAll H xs ds) (ry : RpAll H ys ds)
    (hd : ∀ d ∈ ds, d.depth < n) (k : Q (.bl true) H) {K : PySem.W.Frag} (hz : ys.length < 4611686018427387904) :
    tSeq (tFor (iRng1 (tCons (tCB rLenQ (tCons (tVar 1) tNil)) tNil)) (gName 2)
      (tIfS (tNot (tB (tCall (sp_L_alike n) [] E0 (tCons (tOp rXQ (tVar 0) (tVar 2)) (tCons (tOp rXQ (tVar 1) (tVar 2)) tNil))))) (tRet (tC (.bl false))) tNext))
      (tRet (tC (.bl true))) { nx := fun _ H' => Q .non H', rt := Q } [some (.ref x), some (.ref y), none] H := by
  refine st_seq (forR (n := (ys.length : Int)) (fun R h => ⟨_, rfl, y, ys, rfl, hy, h⟩) (by omega) (by omega) (fun _ σ' H' => H' = H ∧ σ'[0]? = some (some (.ref x)) ∧ σ'[1]? = some (some (.ref y)) ∧ 2 < σ'.length) ⟨rfl, rfl, rfl, by simp⟩ ?_ ?_)
  · rintro i σ' H' hi ⟨rfl, g0, g1, g2⟩
    have e1 := rx.length
    have e2 := ry.length
    have hi' : i < ds.length := by omega
    obtain ⟨v, hv, rv⟩ := rx.item hi'
    obtain ⟨u, hu, ru⟩ := ry.item hi'
    have s0 : (σ'.set 2 (some (V.int (i : Int))))[0]? = some (some (.ref x)) := by simp [g0]
    have s1 : (σ'.set 2 (some (V.int (i : Int))))[1]? = some (some (.ref y)) := by simp [g1]
    have s2 : (σ'.set 2 (some (V.int (i : Int))))[2]? = some (some (.int (i : Int))) := by simp [g2]
    refine ⟨_, s0, _, s2, x, xs, _, v, rfl, rfl, hx, atI_nat hv, ?_⟩
    refine ⟨_, s1, _, s2, y, ys, _, u, rfl, rfl, hy, atI_nat hu, ?_⟩
    refine ⟨v, u, ds[i], rfl, rv, ru, hd _ (List.getElem_mem hi'), true, rfl, ?_⟩
    exact iteF ⟨rfl, s0, s1, by simpa using g2⟩
  · rintro σ' H' ⟨rfl, _⟩
    exact k
theorem ite_of {p : Prop} {c : Prop} [Decidable c] {q : Prop} (h : c) (k : p) : if c then p else q := by rw [if_pos h]; exact k
theorem rd_L_alike {K : PySem.W.Frag} {n : Nat} {vs : List V} {H : Hp} {Q : VK} {E : XK} (h : sp_L_alike (n + 1) vs H Q E) (hw : HSz H) : t_L_alike K n { nx := fun _ H' => Q .non H', rt := Q } (start ["_", "_", "_"] vs) H := by
  obtain ⟨x, y, d, rfl, hx, hy, hd, k⟩ := h
  show t_L_alike K n _ [some x, some y, none] H
  unfold t_L_alike
  refine st_seq ?_
  cases d with
  | none =>
    cases hx; cases hy
    simp only [tIfS, tRet, tRetN, tAsg, gName, gSub, gCons, gNil, gTup, tDrop, tNext, tVar, tC, tOp, tUn, tTest, tB, tAnd, tOr, tNot, tAndV, tOrV, tNotV, tIf, tCons, tNil, xLst, xTup, xDic, tCB, tCall, tChain, tSl, tPart, tNoPart, rI, rI0, rU, rEq, rNe, scal, rXL, rXT, rXQ, rLenL, rLenT, rLenS, rLenQ, rInt1, rTupL, rLstL, rIsN, rNotN, rInT, rAddS, rLtS, rInS1, rNinS1, rIxS, rSlS, rStL, rCt, rSL, tApp, tPopAt, tPopL, tJoinL, tIndex, xFld, xSet, xMeth, xMake, rGetS, rGetI, rInDS, rInDI, xPutS, xPutI, xGet2S, xGet2I, xPopI, rDctD, rLstD, rCatT, HO.ins.injEq, ixN0, ixN1, ixN2, ixN3, atI0, atI1, atI2, atI3, eqV_str, eqV_int, eqV_is, eqV_si, inV_nil, inV_cons, flatV, List.all_cons, List.all_nil, wd_eq, wd_ne0, wd_ne0', List.getElem?_cons_zero, List.getElem?_cons_succ, List.set_cons_zero, List.set_cons_succ, List.cons_append, List.nil_append, List.append_nil, Nat.reduceAdd, Nat.reduceLT, Option.some.injEq, V.int.injEq, V.str.injEq, V.bl.injEq, V.ref.injEq, HO.lst.injEq, HO.tup.injEq, HO.dK.injEq, List.cons.injEq, exists_eq_left, exists_eq_left', exists_eq_right, exists_eq_right', exists_and_left, exists_and_right, exists_const, exists_eq, exists_eq', and_assoc, true_and, and_true, false_and, and_false, true_or, or_true, false_or, or_false, reduceCtorEq, not_true_eq_false, not_false_eq_true, decide_true, decide_false, decide_eq_true_eq, decide_not, Bool.not_true, Bool.not_false, Bool.false_eq_true, Bool.true_and, Bool.and_true, Bool.false_and, Bool.and_false, Bool.true_or, Bool.or_true, Bool.false_or, Bool.or_false, if_true, if_false, ite_true, ite_false, Nat.reduceEqDiff, exists_false, eq_self, upd_same, Bool.not_eq_true', decide_eq_false_iff_not]
    exact k
  | bool b =>
    cases hx; cases hy
    simp only [tIfS, tRet, tRetN, tAsg, gName, gSub, gCons, gNil, gTup, tDrop, tNext, tVar, tC, tOp, tUn, tTest, tB, tAnd, tOr, tNot, tAndV, tOrV, tNotV, tIf, tCons, tNil, xLst, xTup, xDic, tCB, tCall, tChain, tSl, tPart, tNoPart, rI, rI0, rU, rEq, rNe, scal, rXL, rXT, rXQ, rLenL, rLenT, rLenS, rLenQ, rInt1, rTupL, rLstL, rIsN, rNotN, rInT, rAddS, rLtS, rInS1, rNinS1, rIxS, rSlS, rStL, rCt, rSL, tApp, tPopAt, tPopL, tJoinL, tIndex, xFld, xSet, xMeth, xMake, rGetS, rGetI, rInDS, rInDI, xPutS, xPutI, xGet2S, xGet2I, xPopI, rDctD, rLstD, rCatT, HO.ins.injEq, ixN0, ixN1, ixN2, ixN3, atI0, atI1, atI2, atI3, eqV_str, eqV_int, eqV_is, eqV_si, inV_nil, inV_cons, flatV, List.all_cons, List.all_nil, wd_eq, wd_ne0, wd_ne0', List.getElem?_cons_zero, List.getElem?_cons_succ, List.set_cons_zero, List.set_cons_succ, List.cons_append, List.nil_append, List.append_nil, Nat.reduceAdd, Nat.reduceLT, Option.some.injEq, V.int.injEq, V.str.injEq, V.bl.injEq, V.ref.injEq, HO.lst.injEq, HO.tup.injEq, HO.dK.injEq, List.cons.injEq, exists_eq_left, exists_eq_left', exists_eq_right, exists_eq_right', exists_and_left, exists_and_right, exists_const, exists_eq, exists_eq', and_assoc, true_and, and_true, false_and, and_false, true_or, or_true, false_or, or_false, reduceCtorEq, not_true_eq_false, not_false_eq_true, decide_true, decide_false, decide_eq_true_eq, decide_not, Bool.not_true, Bool.not_false, Bool.false_eq_true, Bool.true_and, Bool.and_true, Bool.false_and, Bool.and_false, Bool.true_or, Bool.or_true, Bool.false_or, Bool.or_false, if_true, if_false, ite_true, ite_false, Nat.reduceEqDiff, exists_false, eq_self, upd_same, Bool.not_eq_true', decide_eq_false_iff_not]
    refine st_seq ?_
    simp only [tIfS, tRet, tRetN, tAsg, gName, gSub, gCons, gNil, gTup, tDrop, tNext, tVar, tC, tOp, tUn, tTest, tB, tAnd, tOr, tNot, tAndV, tOrV, tNotV, tIf, tCons, tNil, xLst, xTup, xDic, tCB, tCall, tChain, tSl, tPart, tNoPart, rI, rI0, rU, rEq, rNe, scal, rXL, rXT, rXQ, rLenL, rLenT, rLenS, rLenQ, rInt1, rTupL, rLstL, rIsN, rNotN, rInT, rAddS, rLtS, rInS1, rNinS1, rIxS, rSlS, rStL, rCt, rSL, tApp, tPopAt, tPopL, tJoinL, tIndex, xFld, xSet, xMeth, xMake, rGetS, rGetI, rInDS, rInDI, xPutS, xPutI, xGet2S, xGet2I, xPopI, rDctD, rLstD, rCatT, HO.ins.injEq, ixN0, ixN1, ixN2, ixN3, atI0, atI1, atI2, atI3, eqV_str, eqV_int, eqV_is, eqV_si, inV_nil, inV_cons, flatV, List.all_cons, List.all_nil, wd_eq, wd_ne0, wd_ne0', List.getElem?_cons_zero, List.getElem?_cons_succ, List.set_cons_zero, List.set_cons_succ, List.cons_append, List.nil_append, List.append_nil, Nat.reduceAdd, Nat.reduceLT, Option.some.injEq, V.int.injEq, V.str.injEq, V.bl.injEq, V.ref.injEq, HO.lst.injEq, HO.tup.injEq, HO.dK.injEq, List.cons.injEq, exists_eq_left, exists_eq_left', exists_eq_right, exists_eq_right', exists_and_left, exists_and_right, exists_const, exists_eq, exists_eq', and_assoc, true_and, and_true, false_and, and_false, true_or, or_true, false_or, or_false, reduceCtorEq, not_true_eq_false, not_false_eq_true, decide_true, decide_false, decide_eq_true_eq, decide_not, Bool.not_true, Bool.not_false, Bool.false_eq_true, Bool.true_and, Bool.and_true, Bool.false_and, Bool.and_false, Bool.true_or, Bool.or_true, Bool.false_or, Bool.or_false, if_true, if_false, ite_true, ite_false, Nat.reduceEqDiff, exists_false, eq_self, upd_same, Bool.not_eq_true', decide_eq_false_iff_not, is_bool_bool]
    exact k
  | int i =>
    cases hx; cases hy
    simp only [tIfS, tRet, tRetN, tAsg, gName, gSub, gCons, gNil, gTup, tDrop, tNext, tVar, tC, tOp, tUn, tTest, tB, tAnd, tOr, tNot, tAndV, tOrV, tNotV, tIf, tCons, tNil, xLst, xTup, xDic, tCB, tCall, tChain, tSl, tPart, tNoPart, rI, rI0, rU, rEq, rNe, scal, rXL, rXT, rXQ, rLenL, rLenT, rLenS, rLenQ, rInt1, rTupL, rLstL, rIsN, rNotN, rInT, rAddS, rLtS, rInS1, rNinS1, rIxS, rSlS, rStL, rCt, rSL, tApp, tPopAt, tPopL, tJoinL, tIndex, xFld, xSet, xMeth, xMake, rGetS, rGetI, rInDS, rInDI, xPutS, xPutI, xGet2S, xGet2I, xPopI, rDctD, rLstD, rCatT, HO.ins.injEq, ixN0, ixN1, ixN2, ixN3, atI0, atI1, atI2, atI3, eqV_str, eqV_int, eqV_is, eqV_si, inV_nil, inV_cons, flatV, List.all_cons, List.all_nil, wd_eq, wd_ne0, wd_ne0', List.getElem?_cons_zero, List.getElem?_cons_succ, List.set_cons_zero, List.set_cons_succ, List.cons_append, List.nil_append, List.append_nil, Nat.reduceAdd, Nat.reduceLT, Option.some.injEq, V.int.injEq, V.str.injEq, V.bl.injEq, V.ref.injEq, HO.lst.injEq, HO.tup.injEq, HO.dK.injEq, List.cons.injEq, exists_eq_left, exists_eq_left', exists_eq_right, exists_eq_right', exists_and_left, exists_and_right, exists_const, exists_eq, exists_eq', and_assoc, true_and, and_true, false_and, and_false, true_or, or_true, false_or, or_false, reduceCtorEq, not_true_eq_false, not_false_eq_true, decide_true, decide_false, decide_eq_true_eq, decide_not, Bool.not_true, Bool.not_false, Bool.false_eq_true, Bool.true_and, Bool.and_true, Bool.false_and, Bool.and_false, Bool.true_or, Bool.or_true, Bool.false_or, Bool.or_false, if_true, if_false, ite_true, ite_false, Nat.reduceEqDiff, exists_false, eq_self, upd_same, Bool.not_eq_true', decide_eq_false_iff_not]
    refine st_seq ?_
    simp only [tIfS, tRet, tRetN, tAsg, gName, gSub, gCons, gNil, gTup, tDrop, tNext, tVar, tC, tOp, tUn, tTest, tB, tAnd, tOr, tNot, tAndV, tOrV, tNotV, tIf, tCons, tNil, xLst, xTup, xDic, tCB, tCall, tChain, tSl, tPart, tNoPart, rI, rI0, rU, rEq, rNe, scal, rXL, rXT, rXQ, rLenL, rLenT, rLenS, rLenQ, rInt1, rTupL, rLstL, rIsN, rNotN, rInT, rAddS, rLtS, rInS1, rNinS1, rIxS, rSlS, rStL, rCt, rSL, tApp, tPopAt, tPopL, tJoinL, tIndex, xFld, xSet, xMeth, xMake, rGetS, rGetI, rInDS, rInDI, xPutS, xPutI, xGet2S, xGet2I, xPopI, rDctD, rLstD, rCatT, HO.ins.injEq, ixN0, ixN1, ixN2, ixN3, atI0, atI1, atI2, atI3, eqV_str, eqV_int, eqV_is, eqV_si, inV_nil, inV_cons, flatV, List.all_cons, List.all_nil, wd_eq, wd_ne0, wd_ne0', List.getElem?_cons_zero, List.getElem?_cons_succ, List.set_cons_zero, List.set_cons_succ, List.cons_append, List.nil_append, List.append_nil, Nat.reduceAdd, Nat.reduceLT, Option.some.injEq, V.int.injEq, V.str.injEq, V.bl.injEq, V.ref.injEq, HO.lst.injEq, HO.tup.injEq, HO.dK.injEq, List.cons.injEq, exists_eq_left, exists_eq_left', exists_eq_right, exists_eq_right', exists_and_left, exists_and_right, exists_const, exists_eq, exists_eq', and_assoc, true_and, and_true, false_and, and_false, true_or, or_true, false_or, or_false, reduceCtorEq, not_true_eq_false, not_false_eq_true, decide_true, decide_false, decide_eq_true_eq, decide_not, Bool.not_true, Bool.not_false, Bool.false_eq_true, Bool.true_and, Bool.and_true, Bool.false_and, Bool.and_false, Bool.true_or, Bool.or_true, Bool.false_or, Bool.or_false, if_true, if_false, ite_true, ite_false, Nat.reduceEqDiff, exists_false, eq_self, upd_same, Bool.not_eq_true', decide_eq_false_iff_not, is_int_bool]
    refine st_seq ?_
    simp only [tIfS, tRet, tRetN, tAsg, gName, gSub, gCons, gNil, gTup, tDrop, tNext, tVar, tC, tOp, tUn, tTest, tB, tAnd, tOr, tNot, tAndV, tOrV, tNotV, tIf, tCons, tNil, xLst, xTup, xDic, tCB, tCall, tChain, tSl, tPart, tNoPart, rI, rI0, rU, rEq, rNe, scal, rXL, rXT, rXQ, rLenL, rLenT, rLenS, rLenQ, rInt1, rTupL, rLstL, rIsN, rNotN, rInT, rAddS, rLtS, rInS1, rNinS1, rIxS, rSlS, rStL, rCt, rSL, tApp, tPopAt, tPopL, tJoinL, tIndex, xFld, xSet, xMeth, xMake, rGetS, rGetI, rInDS, rInDI, xPutS, xPutI, xGet2S, xGet2I, xPopI, rDctD, rLstD, rCatT, HO.ins.injEq, ixN0, ixN1, ixN2, ixN3, atI0, atI1, atI2, atI3, eqV_str, eqV_int, eqV_is, eqV_si, inV_nil, inV_cons, flatV, List.all_cons, List.all_nil, wd_eq, wd_ne0, wd_ne0', List.getElem?_cons_zero, List.getElem?_cons_succ, List.set_cons_zero, List.set_cons_succ, List.cons_append, List.nil_append, List.append_nil, Nat.reduceAdd, Nat.reduceLT, Option.some.injEq, V.int.injEq, V.str.injEq, V.bl.injEq, V.ref.injEq, HO.lst.injEq, HO.tup.injEq, HO.dK.injEq, List.cons.injEq, exists_eq_left, exists_eq_left', exists_eq_right, exists_eq_right', exists_and_left, exists_and_right, exists_const, exists_eq, exists_eq', and_assoc, true_and, and_true, false_and, and_false, true_or, or_true, false_or, or_false, reduceCtorEq, not_true_eq_false, not_false_eq_true, decide_true, decide_false, decide_eq_true_eq, decide_not, Bool.not_true, Bool.not_false, Bool.false_eq_true, Bool.true_and, Bool.and_true, Bool.false_and, Bool.and_false, Bool.true_or, Bool.or_true, Bool.false_or, Bool.or_false, if_true, if_false, ite_true, ite_false, Nat.reduceEqDiff, exists_false, eq_self, upd_same, Bool.not_eq_true', decide_eq_false_iff_not, is_int_bool, is_int_int]
    exact k
  | str z =>
    cases hx; cases hy
    simp only [tIfS, tRet, tRetN, tAsg, gName, gSub, gCons, gNil, gTup, tDrop, tNext, tVar, tC, tOp, tUn, tTest, tB, tAnd, tOr, tNot, tAndV, tOrV, tNotV, tIf, tCons, tNil, xLst, xTup, xDic, tCB, tCall, tChain, tSl, tPart, tNoPart, rI, rI0, rU, rEq, rNe, scal, rXL, rXT, rXQ, rLenL, rLenT, rLenS, rLenQ, rInt1, rTupL, rLstL, rIsN, rNotN, rInT, rAddS, rLtS, rInS1, rNinS1, rIxS, rSlS, rStL, rCt, rSL, tApp, tPopAt, tPopL, tJoinL, tIndex, xFld, xSet, xMeth, xMake, rGetS, rGetI, rInDS, rInDI, xPutS, xPutI, xGet2S, xGet2I, xPopI, rDctD, rLstD, rCatT, HO.ins.injEq, ixN0, ixN1, ixN2, ixN3, atI0, atI1, atI2, atI3, eqV_str, eqV_int, eqV_is, eqV_si, inV_nil, inV_cons, flatV, List.all_cons, List.all_nil, wd_eq, wd_ne0, wd_ne0', List.getElem?_cons_zero, List.getElem?_cons_succ, List.set_cons_zero, List.set_cons_succ, List.cons_append, List.nil_append, List.append_nil, Nat.reduceAdd, Nat.reduceLT, Option.some.injEq, V.int.injEq, V.str.injEq, V.bl.injEq, V.ref.injEq, HO.lst.injEq, HO.tup.injEq, HO.dK.injEq, List.cons.injEq, exists_eq_left, exists_eq_left', exists_eq_right, exists_eq_right', exists_and_left, exists_and_right, exists_const, exists_eq, exists_eq', and_assoc, true_and, and_true, false_and, and_false, true_or, or_true, false_or, or_false, reduceCtorEq, not_true_eq_false, not_false_eq_true, decide_true, decide_false, decide_eq_true_eq, decide_not, Bool.not_true, Bool.not_false, Bool.false_eq_true, Bool.true_and, Bool.and_true, Bool.false_and, Bool.and_false, Bool.true_or, Bool.or_true, Bool.false_or, Bool.or_false, if_true, if_false, ite_true, ite_false, Nat.reduceEqDiff, exists_false, eq_self, upd_same, Bool.not_eq_true', decide_eq_false_iff_not]
    refine st_seq ?_
    simp only [tIfS, tRet, tRetN, tAsg, gName, gSub, gCons, gNil, gTup, tDrop, tNext, tVar, tC, tOp, tUn, tTest, tB, tAnd, tOr, tNot, tAndV, tOrV, tNotV, tIf, tCons, tNil, xLst, xTup, xDic, tCB, tCall, tChain, tSl, tPart, tNoPart, rI, rI0, rU, rEq, rNe, scal, rXL, rXT, rXQ, rLenL, rLenT, rLenS, rLenQ, rInt1, rTupL, rLstL, rIsN, rNotN, rInT, rAddS, rLtS, rInS1, rNinS1, rIxS, rSlS, rStL, rCt, rSL, tApp, tPopAt, tPopL, tJoinL, tIndex, xFld, xSet, xMeth, xMake, rGetS, rGetI, rInDS, rInDI, xPutS, xPutI, xGet2S, xGet2I, xPopI, rDctD, rLstD, rCatT, HO.ins.injEq, ixN0, ixN1, ixN2, ixN3, atI0, atI1, atI2, atI3, eqV_str, eqV_int, eqV_is, eqV_si, inV_nil, inV_cons, flatV, List.all_cons, List.all_nil, wd_eq, wd_ne0, wd_ne0', List.getElem?_cons_zero, List.getElem?_cons_succ, List.set_cons_zero, List.set_cons_succ, List.cons_append, List.nil_append, List.append_nil, Nat.reduceAdd, Nat.reduceLT, Option.some.injEq, V.int.injEq, V.str.injEq, V.bl.injEq, V.ref.injEq, HO.lst.injEq, HO.tup.injEq, HO.dK.injEq, List.cons.injEq, exists_eq_left, exists_eq_left', exists_eq_right, exists_eq_right', exists_and_left, exists_and_right, exists_const, exists_eq, exists_eq', and_assoc, true_and, and_true, false_and, and_false, true_or, or_true, false_or, or_false, reduceCtorEq, not_true_eq_false, not_false_eq_true, decide_true, decide_false, decide_eq_true_eq, decide_not, Bool.not_true, Bool.not_false, Bool.false_eq_true, Bool.true_and, Bool.and_true, Bool.false_and, Bool.and_false, Bool.true_or, Bool.or_true, Bool.false_or, Bool.or_false, if_true, if_false, ite_true, ite_false, Nat.reduceEqDiff, exists_false, eq_self, upd_same, Bool.not_eq_true', decide_eq_false_iff_not, is_str_bool]
    refine st_seq ?_
    simp only [tIfS, tRet, tRetN, tAsg, gName, gSub, gCons, gNil, gTup, tDrop, tNext, tVar, tC, tOp, tUn, tTest, tB, tAnd, tOr, tNot, tAndV, tOrV, tNotV, tIf, tCons, tNil, xLst, xTup, xDic, tCB, tCall, tChain, tSl, tPart, tNoPart, rI, rI0, rU, rEq, rNe, scal, rXL, rXT, rXQ, rLenL, rLenT, rLenS, rLenQ, rInt1, rTupL, rLstL, rIsN, rNotN, rInT, rAddS, rLtS, rInS1, rNinS1, rIxS, rSlS, rStL, rCt, rSL, tApp, tPopAt, tPopL, tJoinL, tIndex, xFld, xSet, xMeth, xMake, rGetS, rGetI, rInDS, rInDI, xPutS, xPutI, xGet2S, xGet2I, xPopI, rDctD, rLstD, rCatT, HO.ins.injEq, ixN0, ixN1, ixN2, ixN3, atI0, atI1, atI2, atI3, eqV_str, eqV_int, eqV_is, eqV_si, inV_nil, inV_cons, flatV, List.all_cons, List.all_nil, wd_eq, wd_ne0, wd_ne0', List.getElem?_cons_zero, List.getElem?_cons_succ, List.set_cons_zero, List.set_cons_succ, List.cons_append, List.nil_append, List.append_nil, Nat.reduceAdd, Nat.reduceLT, Option.some.injEq, V.int.injEq, V.str.injEq, V.bl.injEq, V.ref.injEq, HO.lst.injEq, HO.tup.injEq, HO.dK.injEq, List.cons.injEq, exists_eq_left, exists_eq_left', exists_eq_right, exists_eq_right', exists_and_left, exists_and_right, exists_const, exists_eq, exists_eq', and_assoc, true_and, and_true, false_and, and_false, true_or, or_true, false_or, or_false, reduceCtorEq, not_true_eq_false, not_false_eq_true, decide_true, decide_false, decide_eq_true_eq, decide_not, Bool.not_true, Bool.not_false, Bool.false_eq_true, Bool.true_and, Bool.and_true, Bool.false_and, Bool.and_false, Bool.true_or, Bool.or_true, Bool.false_or, Bool.or_false, if_true, if_false, ite_true, ite_false, Nat.reduceEqDiff, exists_false, eq_self, upd_same, Bool.not_eq_true', decide_eq_false_iff_not, is_str_int]
    refine st_seq ?_
    simp only [tIfS, tRet, tRetN, tAsg, gName, gSub, gCons, gNil, gTup, tDrop, tNext, tVar, tC, tOp, tUn, tTest, tB, tAnd, tOr, tNot, tAndV, tOrV, tNotV, tIf, tCons, tNil, xLst, xTup, xDic, tCB, tCall, tChain, tSl, tPart, tNoPart, rI, rI0, rU, rEq, rNe, scal, rXL, rXT, rXQ, rLenL, rLenT, rLenS, rLenQ, rInt1, rTupL, rLstL, rIsN, rNotN, rInT, rAddS, rLtS, rInS1, rNinS1, rIxS, rSlS, rStL, rCt, rSL, tApp, tPopAt, tPopL, tJoinL, tIndex, xFld, xSet, xMeth, xMake, rGetS, rGetI, rInDS, rInDI, xPutS, xPutI, xGet2S, xGet2I, xPopI, rDctD, rLstD, rCatT, HO.ins.injEq, ixN0, ixN1, ixN2, ixN3, atI0, atI1, atI2, atI3, eqV_str, eqV_int, eqV_is, eqV_si, inV_nil, inV_cons, flatV, List.all_cons, List.all_nil, wd_eq, wd_ne0, wd_ne0', List.getElem?_cons_zero, List.getElem?_cons_succ, List.set_cons_zero, List.set_cons_succ, List.cons_append, List.nil_append, List.append_nil, Nat.reduceAdd, Nat.reduceLT, Option.some.injEq, V.int.injEq, V.str.injEq, V.bl.injEq, V.ref.injEq, HO.lst.injEq, HO.tup.injEq, HO.dK.injEq, List.cons.injEq, exists_eq_left, exists_eq_left', exists_eq_right, exists_eq_right', exists_and_left, exists_and_right, exists_const, exists_eq, exists_eq', and_assoc, true_and, and_true, false_and, and_false, true_or, or_true, false_or, or_false, reduceCtorEq, not_true_eq_false, not_false_eq_true, decide_true, decide_false, decide_eq_true_eq, decide_not, Bool.not_true, Bool.not_false, Bool.false_eq_true, Bool.true_and, Bool.and_true, Bool.false_and, Bool.and_false, Bool.true_or, Bool.or_true, Bool.false_or, Bool.or_false, if_true, if_false, ite_true, ite_false, Nat.reduceEqDiff, exists_false, eq_self, upd_same, Bool.not_eq_true', decide_eq_false_iff_not, is_str_str]
    exact k
  | list ds =>
    cases hx with | lst hx rx => ?_
    cases hy with | lst hy ry => ?_
    simp only [tIfS, tRet, tRetN, tAsg, gName, gSub, gCons, gNil, gTup, tDrop, tNext, tVar, tC, tOp, tUn, tTest, tB, tAnd, tOr, tNot, tAndV, tOrV, tNotV, tIf, tCons, tNil, xLst, xTup, xDic, tCB, tCall, tChain, tSl, tPart, tNoPart, rI, rI0, rU, rEq, rNe, scal, rXL, rXT, rXQ, rLenL, rLenT, rLenS, rLenQ, rInt1, rTupL, rLstL, rIsN, rNotN, rInT, rAddS, rLtS, rInS1, rNinS1, rIxS, rSlS, rStL, rCt, rSL, tApp, tPopAt, tPopL, tJoinL, tIndex, xFld, xSet, xMeth, xMake, rGetS, rGetI, rInDS, rInDI, xPutS, xPutI, xGet2S, xGet2I, xPopI, rDctD, rLstD, rCatT, HO.ins.injEq, ixN0, ixN1, ixN2, ixN3, atI0, atI1, atI2, atI3, eqV_str, eqV_int, eqV_is, eqV_si, inV_nil, inV_cons, flatV, List.all_cons, List.all_nil, wd_eq, wd_ne0, wd_ne0', List.getElem?_cons_zero, List.getElem?_cons_succ, List.set_cons_zero, List.set_cons_succ, List.cons_append, List.nil_append, List.append_nil, Nat.reduceAdd, Nat.reduceLT, Option.some.injEq, V.int.injEq, V.str.injEq, V.bl.injEq, V.ref.injEq, HO.lst.injEq, HO.tup.injEq, HO.dK.injEq, List.cons.injEq, exists_eq_left, exists_eq_left', exists_eq_right, exists_eq_right', exists_and_left, exists_and_right, exists_const, exists_eq, exists_eq', and_assoc, true_and, and_true, false_and, and_false, true_or, or_true, false_or, or_false, reduceCtorEq, not_true_eq_false, not_false_eq_true, decide_true, decide_false, decide_eq_true_eq, decide_not, Bool.not_true, Bool.not_false, Bool.false_eq_true, Bool.true_and, Bool.and_true, Bool.false_and, Bool.and_false, Bool.true_or, Bool.or_true, Bool.false_or, Bool.or_false, if_true, if_false, ite_true, ite_false, Nat.reduceEqDiff, exists_false, eq_self, upd_same, Bool.not_eq_true', decide_eq_false_iff_not]
    refine st_seq ?_
    simp only [tIfS, tRet, tRetN, tAsg, gName, gSub, gCons, gNil, gTup, tDrop, tNext, tVar, tC, tOp, tUn, tTest, tB, tAnd, tOr, tNot, tAndV, tOrV, tNotV, tIf, tCons, tNil, xLst, xTup, xDic, tCB, tCall, tChain, tSl, tPart, tNoPart, rI, rI0, rU, rEq, rNe, scal, rXL, rXT, rXQ, rLenL, rLenT, rLenS, rLenQ, rInt1, rTupL, rLstL, rIsN, rNotN, rInT, rAddS, rLtS, rInS1, rNinS1, rIxS, rSlS, rStL, rCt, rSL, tApp, tPopAt, tPopL, tJoinL, tIndex, xFld, xSet, xMeth, xMake, rGetS, rGetI, rInDS, rInDI, xPutS, xPutI, xGet2S, xGet2I, xPopI, rDctD, rLstD, rCatT, HO.ins.injEq, ixN0, ixN1, ixN2, ixN3, atI0, atI1, atI2, atI3, eqV_str, eqV_int, eqV_is, eqV_si, inV_nil, inV_cons, flatV, List.all_cons, List.all_nil, wd_eq, wd_ne0, wd_ne0', List.getElem?_cons_zero, List.getElem?_cons_succ, List.set_cons_zero, List.set_cons_succ, List.cons_append, List.nil_append, List.append_nil, Nat.reduceAdd, Nat.reduceLT, Option.some.injEq, V.int.injEq, V.str.injEq, V.bl.injEq, V.ref.injEq, HO.lst.injEq, HO.tup.injEq, HO.dK.injEq, List.cons.injEq, exists_eq_left, exists_eq_left', exists_eq_right, exists_eq_right', exists_and_left, exists_and_right, exists_const, exists_eq, exists_eq', and_assoc, true_and, and_true, false_and, and_false, true_or, or_true, false_or, or_false, reduceCtorEq, not_true_eq_false, not_false_eq_true, decide_true, decide_false, decide_eq_true_eq, decide_not, Bool.not_true, Bool.not_false, Bool.false_eq_true, Bool.true_and, Bool.and_true, Bool.false_and, Bool.and_false, Bool.true_or, Bool.or_true, Bool.false_or, Bool.or_false, if_true, if_false, ite_true, ite_false, Nat.reduceEqDiff, exists_false, eq_self, upd_same, Bool.not_eq_true', decide_eq_false_iff_not, is_list_bool hy]
    refine st_seq ?_
    simp only [tIfS, tRet, tRetN, tAsg, gName, gSub, gCons, gNil, gTup, tDrop, tNext, tVar, tC, tOp, tUn, tTest, tB, tAnd, tOr, tNot, tAndV, tOrV, tNotV, tIf, tCons, tNil, xLst, xTup, xDic, tCB, tCall, tChain, tSl, tPart, tNoPart, rI, rI0, rU, rEq, rNe, scal, rXL, rXT, rXQ, rLenL, rLenT, rLenS, rLenQ, rInt1, rTupL, rLstL, rIsN, rNotN, rInT, rAddS, rLtS, rInS1, rNinS1, rIxS, rSlS, rStL, rCt, rSL, tApp, tPopAt, tPopL, tJoinL, tIndex, xFld, xSet, xMeth, xMake, rGetS, rGetI, rInDS, rInDI, xPutS, xPutI, xGet2S, xGet2I, xPopI, rDctD, rLstD, rCatT, HO.ins.injEq, ixN0, ixN1, ixN2, ixN3, atI0, atI1, atI2, atI3, eqV_str, eqV_int, eqV_is, eqV_si, inV_nil, inV_cons, flatV, List.all_cons, List.all_nil, wd_eq, wd_ne0, wd_ne0', List.getElem?_cons_zero, List.getElem?_cons_succ, List.set_cons_zero, List.set_cons_succ, List.cons_append, List.nil_append, List.append_nil, Nat.reduceAdd, Nat.reduceLT, Option.some.injEq, V.int.injEq, V.str.injEq, V.bl.injEq, V.ref.injEq, HO.lst.injEq, HO.tup.injEq, HO.dK.injEq, List.cons.injEq, exists_eq_left, exists_eq_left', exists_eq_right, exists_eq_right', exists_and_left, exists_and_right, exists_const, exists_eq, exists_eq', and_assoc, true_and, and_true, false_and, and_false, true_or, or_true, false_or, or_false, reduceCtorEq, not_true_eq_false, not_false_eq_true, decide_true, decide_false, decide_eq_true_eq, decide_not, Bool.not_true, Bool.not_false, Bool.false_eq_true, Bool.true_and, Bool.and_true, Bool.false_and, Bool.and_false, Bool.true_or, Bool.or_true, Bool.false_or, Bool.or_false, if_true, if_false, ite_true, ite_false, Nat.reduceEqDiff, exists_false, eq_self, upd_same, Bool.not_eq_true', decide_eq_false_iff_not, is_list_int hy]
    refine st_seq ?_
    simp only [tIfS, tRet, tRetN, tAsg, gName, gSub, gCons, gNil, gTup, tDrop, tNext, tVar, tC, tOp, tUn, tTest, tB, tAnd, tOr, tNot, tAndV, tOrV, tNotV, tIf, tCons, tNil, xLst, xTup, xDic, tCB, tCall, tChain, tSl, tPart, tNoPart, rI, rI0, rU, rEq, rNe, scal, rXL, rXT, rXQ, rLenL, rLenT, rLenS, rLenQ, rInt1, rTupL, rLstL, rIsN, rNotN, rInT, rAddS, rLtS, rInS1, rNinS1, rIxS, rSlS, rStL, rCt, rSL, tApp, tPopAt, tPopL, tJoinL, tIndex, xFld, xSet, xMeth, xMake, rGetS, rGetI, rInDS, rInDI, xPutS, xPutI, xGet2S, xGet2I, xPopI, rDctD, rLstD, rCatT, HO.ins.injEq, ixN0, ixN1, ixN2, ixN3, atI0, atI1, atI2, atI3, eqV_str, eqV_int, eqV_is, eqV_si, inV_nil, inV_cons, flatV, List.all_cons, List.all_nil, wd_eq, wd_ne0, wd_ne0', List.getElem?_cons_zero, List.getElem?_cons_succ, List.set_cons_zero, List.set_cons_succ, List.cons_append, List.nil_append, List.append_nil, Nat.reduceAdd, Nat.reduceLT, Option.some.injEq, V.int.injEq, V.str.injEq, V.bl.injEq, V.ref.injEq, HO.lst.injEq, HO.tup.injEq, HO.dK.injEq, List.cons.injEq, exists_eq_left, exists_eq_left', exists_eq_right, exists_eq_right', exists_and_left, exists_and_right, exists_const, exists_eq, exists_eq', and_assoc, true_and, and_true, false_and, and_false, true_or, or_true, false_or, or_false, reduceCtorEq, not_true_eq_false, not_false_eq_true, decide_true, decide_false, decide_eq_true_eq, decide_not, Bool.not_true, Bool.not_false, Bool.false_eq_true, Bool.true_and, Bool.and_true, Bool.false_and, Bool.and_false, Bool.true_or, Bool.or_true, Bool.false_or, Bool.or_false, if_true, if_false, ite_true, ite_false, Nat.reduceEqDiff, exists_false, eq_self, upd_same, Bool.not_eq_true', decide_eq_false_iff_not, is_list_str hy]
    refine st_seq ?_
    simp only [tIfS, tRet, tRetN, tAsg, gName, gSub, gCons, gNil, gTup, tDrop, tNext, tVar, tC, tOp, tUn, tTest, tB, tAnd, tOr, tNot, tAndV, tOrV, tNotV, tIf, tCons, tNil, xLst, xTup, xDic, tCB, tCall, tChain, tSl, tPart, tNoPart, rI, rI0, rU, rEq, rNe, scal, rXL, rXT, rXQ, rLenL, rLenT, rLenS, rLenQ, rInt1, rTupL, rLstL, rIsN, rNotN, rInT, rAddS, rLtS, rInS1, rNinS1, rIxS, rSlS, rStL, rCt, rSL, tApp, tPopAt, tPopL, tJoinL, tIndex, xFld, xSet, xMeth, xMake, rGetS, rGetI, rInDS, rInDI, xPutS, xPutI, xGet2S, xGet2I, xPopI, rDctD, rLstD, rCatT, HO.ins.injEq, ixN0, ixN1, ixN2, ixN3, atI0, atI1, atI2, atI3, eqV_str, eqV_int, eqV_is, eqV_si, inV_nil, inV_cons, flatV, List.all_cons, List.all_nil, wd_eq, wd_ne0, wd_ne0', List.getElem?_cons_zero, List.getElem?_cons_succ, List.set_cons_zero, List.set_cons_succ, List.cons_append, List.nil_append, List.append_nil, Nat.reduceAdd, Nat.reduceLT, Option.some.injEq, V.int.injEq, V.str.injEq, V.bl.injEq, V.ref.injEq, HO.lst.injEq, HO.tup.injEq, HO.dK.injEq, List.cons.injEq, exists_eq_left, exists_eq_left', exists_eq_right, exists_eq_right', exists_and_left, exists_and_right, exists_const, exists_eq, exists_eq', and_assoc, true_and, and_true, false_and, and_false, true_or, or_true, false_or, or_false, reduceCtorEq, not_true_eq_false, not_false_eq_true, decide_true, decide_false, decide_eq_true_eq, decide_not, Bool.not_true, Bool.not_false, Bool.false_eq_true, Bool.true_and, Bool.and_true, Bool.false_and, Bool.and_false, Bool.true_or, Bool.or_true, Bool.false_or, Bool.or_false, if_true, if_false, ite_true, ite_false, Nat.reduceEqDiff, exists_false, eq_self, upd_same, Bool.not_eq_true', decide_eq_false_iff_not, is_list_tuple hy, is_list_tuple hx, is_list_list hy, is_list_list hx]
    refine st_seq ?_
    have e1 := rx.length
    have e2 := ry.length
    simp only [tIfS, tRet, tRetN, tAsg, gName, gSub, gCons, gNil, gTup, tDrop, tNext, tVar, tC, tOp, tUn, tTest, tB, tAnd, tOr, tNot, tAndV, tOrV, tNotV, tIf, tCons, tNil, xLst, xTup, xDic, tCB, tCall, tChain, tSl, tPart, tNoPart, rI, rI0, rU, rEq, rNe, scal, rXL, rXT, rXQ, rLenL, rLenT, rLenS, rLenQ, rInt1, rTupL, rLstL, rIsN, rNotN, rInT, rAddS, rLtS, rInS1, rNinS1, rIxS, rSlS, rStL, rCt, rSL, tApp, tPopAt, tPopL, tJoinL, tIndex, xFld, xSet, xMeth, xMake, rGetS, rGetI, rInDS, rInDI, xPutS, xPutI, xGet2S, xGet2I, xPopI, rDctD, rLstD, rCatT, HO.ins.injEq, ixN0, ixN1, ixN2, ixN3, atI0, atI1, atI2, atI3, eqV_str, eqV_int, eqV_is, eqV_si, inV_nil, inV_cons, flatV, List.all_cons, List.all_nil, wd_eq, wd_ne0, wd_ne0', List.getElem?_cons_zero, List.getElem?_cons_succ, List.set_cons_zero, List.set_cons_succ, List.cons_append, List.nil_append, List.append_nil, Nat.reduceAdd, Nat.reduceLT, Option.some.injEq, V.int.injEq, V.str.injEq, V.bl.injEq, V.ref.injEq, HO.lst.injEq, HO.tup.injEq, HO.dK.injEq, List.cons.injEq, exists_eq_left, exists_eq_left', exists_eq_right, exists_eq_right', exists_and_left, exists_and_right, exists_const, exists_eq, exists_eq', and_assoc, true_and, and_true, false_and, and_false, true_or, or_true, false_or, or_false, reduceCtorEq, not_true_eq_false, not_false_eq_true, decide_true, decide_false, decide_eq_true_eq, decide_not, Bool.not_true, Bool.not_false, Bool.false_eq_true, Bool.true_and, Bool.and_true, Bool.false_and, Bool.and_false, Bool.true_or, Bool.or_true, Bool.false_or, Bool.or_false, if_true, if_false, ite_true, ite_false, Nat.reduceEqDiff, exists_false, eq_self, upd_same, Bool.not_eq_true', decide_eq_false_iff_not, hx, hy]
    rw [e1, e2]
    simp only [tIfS, tRet, tRetN, tAsg, gName, gSub, gCons, gNil, gTup, tDrop, tNext, tVar, tC, tOp, tUn, tTest, tB, tAnd, tOr, tNot, tAndV, tOrV, tNotV, tIf, tCons, tNil, xLst, xTup, xDic, tCB, tCall, tChain, tSl, tPart, tNoPart, rI, rI0, rU, rEq, rNe, scal, rXL, rXT, rXQ, rLenL, rLenT, rLenS, rLenQ, rInt1, rTupL, rLstL, rIsN, rNotN, rInT, rAddS, rLtS, rInS1, rNinS1, rIxS, rSlS, rStL, rCt, rSL, tApp, tPopAt, tPopL, tJoinL, tIndex, xFld, xSet, xMeth, xMake, rGetS, rGetI, rInDS, rInDI, xPutS, xPutI, xGet2S, xGet2I, xPopI, rDctD, rLstD, rCatT, HO.ins.injEq, ixN0, ixN1, ixN2, ixN3, atI0, atI1, atI2, atI3, eqV_str, eqV_int, eqV_is, eqV_si, inV_nil, inV_cons, flatV, List.all_cons, List.all_nil, wd_eq, wd_ne0, wd_ne0', List.getElem?_cons_zero, List.getElem?_cons_succ, List.set_cons_zero, List.set_cons_succ, List.cons_append, List.nil_append, List.append_nil, Nat.reduceAdd, Nat.reduceLT, Option.some.injEq, V.int.injEq, V.str.injEq, V.bl.injEq, V.ref.injEq, HO.lst.injEq, HO.tup.injEq, HO.dK.injEq, List.cons.injEq, exists_eq_left, exists_eq_left', exists_eq_right, exists_eq_right', exists_and_left, exists_and_right, exists_const, exists_eq, exists_eq', and_assoc, true_and, and_true, false_and, and_false, true_or, or_true, false_or, or_false, reduceCtorEq, not_true_eq_false, not_false_eq_true, decide_true, decide_false, decide_eq_true_eq, decide_not, Bool.not_true, Bool.not_false, Bool.false_eq_true, Bool.true_and, Bool.and_true, Bool.false_and, Bool.and_false, Bool.true_or, Bool.or_true, Bool.false_or, Bool.or_false, if_true, if_false, ite_true, ite_false, Nat.reduceEqDiff, exists_false, eq_self, upd_same, Bool.not_eq_true', decide_eq_false_iff_not, eq_self]
    exact alike_loop (.inl hx) (.inl hy) rx ry (depth_lt_list (by simp only [PyData.depth] at hd; omega)) k (K := K) (Nat.lt_of_le_of_lt ((hw _).1 _ hy) (by decide))
  | tuple ds =>
    cases hx with | tup hx rx => ?_
    cases hy with | tup hy ry => ?_
    simp only [tIfS, tRet, tRetN, tAsg, gName, gSub, gCons, gNil, gTup, tDrop, tNext, tVar, tC, tOp, tUn, tTest, tB, tAnd, tOr, tNot, tAndV, tOrV, tNotV, tIf, tCons, tNil, xLst, xTup, xDic, tCB, tCall, tChain, tSl, tPart, tNoPart, rI, rI0, rU, rEq, rNe, scal, rXL, rXT, rXQ, rLenL, rLenT, rLenS, rLenQ, rInt1, rTupL, rLstL, rIsN, rNotN, rInT, rAddS, rLtS, rInS1, rNinS1, rIxS, rSlS, rStL, rCt, rSL, tApp, tPopAt, tPopL, tJoinL, tIndex, xFld, xSet, xMeth, xMake, rGetS, rGetI, rInDS, rInDI, xPutS, xPutI, xGet2S, xGet2I, xPopI, rDctD, rLstD, rCatT, HO.ins.injEq, ixN0, ixN1, ixN2, ixN3, atI0, atI1, atI2, atI3, eqV_str, eqV_int, eqV_is, eqV_si, inV_nil, inV_cons, flatV, List.all_cons, List.all_nil, wd_eq, wd_ne0, wd_ne0', List.getElem?_cons_zero, List.getElem?_cons_succ, List.set_cons_zero, List.set_cons_succ, List.cons_append, List.nil_append, List.append_nil, Nat.reduceAdd, Nat.reduceLT, Option.some.injEq, V.int.injEq, V.str.injEq, V.bl.injEq, V.ref.injEq, HO.lst.injEq, HO.tup.injEq, HO.dK.injEq, List.cons.injEq, exists_eq_left, exists_eq_left', exists_eq_right, exists_eq_right', exists_and_left, exists_and_right, exists_const, exists_eq, exists_eq', and_assoc, true_and, and_true, false_and, and_false, true_or, or_true, false_or, or_false, reduceCtorEq, not_true_eq_false, not_false_eq_true, decide_true, decide_false, decide_eq_true_eq, decide_not, Bool.not_true, Bool.not_false, Bool.false_eq_true, Bool.true_and, Bool.and_true, Bool.false_and, Bool.and_false, Bool.true_or, Bool.or_true, Bool.false_or, Bool.or_false, if_true, if_false, ite_true, ite_false, Nat.reduceEqDiff, exists_false, eq_self, upd_same, Bool.not_eq_true', decide_eq_false_iff_not]
    refine st_seq ?_
    simp only [tIfS, tRet, tRetN, tAsg, gName, gSub, gCons, gNil, gTup, tDrop, tNext, tVar, tC, tOp, tUn, tTest, tB, tAnd, tOr, tNot, tAndV, tOrV, tNotV, tIf, tCons, tNil, xLst, xTup, xDic, tCB, tCall, tChain, tSl, tPart, tNoPart, rI, rI0, rU, rEq, rNe, scal, rXL, rXT, rXQ, rLenL, rLenT, rLenS, rLenQ, rInt1, rTupL, rLstL, rIsN, rNotN, rInT, rAddS, rLtS, rInS1, rNinS1, rIxS, rSlS, rStL, rCt, rSL, tApp, tPopAt, tPopL, tJoinL, tIndex, xFld, xSet, xMeth, xMake, rGetS, rGetI, rInDS, rInDI, xPutS, xPutI, xGet2S, xGet2I, xPopI, rDctD, rLstD, rCatT, HO.ins.injEq, ixN0, ixN1, ixN2, ixN3, atI0, atI1, atI2, atI3, eqV_str, eqV_int, eqV_is, eqV_si, inV_nil, inV_cons, flatV, List.all_cons, List.all_nil, wd_eq, wd_ne0, wd_ne0', List.getElem?_cons_zero, List.getElem?_cons_succ, List.set_cons_zero, List.set_cons_succ, List.cons_append, List.nil_append, List.append_nil, Nat.reduceAdd, Nat.reduceLT, Option.some.injEq, V.int.injEq, V.str.injEq, V.bl.injEq, V.ref.injEq, HO.lst.injEq, HO.tup.injEq, HO.dK.injEq, List.cons.injEq, exists_eq_left, exists_eq_left', exists_eq_right, exists_eq_right', exists_and_left, exists_and_right, exists_const, exists_eq, exists_eq', and_assoc, true_and, and_true, false_and, and_false, true_or, or_true, false_or, or_false, reduceCtorEq, not_true_eq_false, not_false_eq_true, decide_true, decide_false, decide_eq_true_eq, decide_not, Bool.not_true, Bool.not_false, Bool.false_eq_true, Bool.true_and, Bool.and_true, Bool.false_and, Bool.and_false, Bool.true_or, Bool.or_true, Bool.false_or, Bool.or_false, if_true, if_false, ite_true, ite_false, Nat.reduceEqDiff, exists_false, eq_self, upd_same, Bool.not_eq_true', decide_eq_false_iff_not, is_tuple_bool hy]
    refine st_seq ?_
    simp only [tIfS, tRet, tRetN, tAsg, gName, gSub, gCons, gNil, gTup, tDrop, tNext, tVar, tC, tOp, tUn, tTest, tB, tAnd, tOr, tNot, tAndV, tOrV, tNotV, tIf, tCons, tNil, xLst, xTup, xDic, tCB, tCall, tChain, tSl, tPart, tNoPart, rI, rI0, rU, rEq, rNe, scal, rXL, rXT, rXQ, rLenL, rLenT, rLenS, rLenQ, rInt1, rTupL, rLstL, rIsN, rNotN, rInT, rAddS, rLtS, rInS1, rNinS1, rIxS, rSlS, rStL, rCt, rSL, tApp, tPopAt, tPopL, tJoinL, tIndex, xFld, xSet, xMeth, xMake, rGetS, rGetI, rInDS, rInDI, xPutS, xPutI, xGet2S, xGet2I, xPopI, rDctD, rLstD, rCatT, HO.ins.injEq, ixN0, ixN1, ixN2, ixN3, atI0, atI1, atI2, atI3, eqV_str, eqV_int, eqV_is, eqV_si, inV_nil, inV_cons, flatV, List.all_cons, List.all_nil, wd_eq, wd_ne0, wd_ne0', List.getElem?_cons_zero, List.getElem?_cons_succ, List.set_cons_zero, List.set_cons_succ, List.cons_append, List.nil_append, List.append_nil, Nat.reduceAdd, Nat.reduceLT, Option.some.injEq, V.int.injEq, V.str.injEq, V.bl.injEq, V.ref.injEq, HO.lst.injEq, HO.tup.injEq, HO.dK.injEq, List.cons.injEq, exists_eq_left, exists_eq_left', exists_eq_right, exists_eq_right', exists_and_left, exists_and_right, exists_const, exists_eq, exists_eq', and_assoc, true_and, and_true, false_and, and_false, true_or, or_true, false_or, or_false, reduceCtorEq, not_true_eq_false, not_false_eq_true, decide_true, decide_false, decide_eq_true_eq, decide_not, Bool.not_true, Bool.not_false, Bool.false_eq_true, Bool.true_and, Bool.and_true, Bool.false_and, Bool.and_false, Bool.true_or, Bool.or_true, Bool.false_or, Bool.or_false, if_true, if_false, ite_true, ite_false, Nat.reduceEqDiff, exists_false, eq_self, upd_same, Bool.not_eq_true', decide_eq_false_iff_not, is_tuple_int hy]
    refine st_seq ?_
    simp only [tIfS, tRet, tRetN, tAsg, gName, gSub, gCons, gNil, gTup, tDrop, tNext, tVar, tC, tOp, tUn, tTest, tB, tAnd, tOr, tNot, tAndV, tOrV, tNotV, tIf, tCons, tNil, xLst, xTup, xDic, tCB, tCall, tChain, tSl, tPart, tNoPart, rI, rI0, rU, rEq, rNe, scal, rXL, rXT, rXQ, rLenL, rLenT, rLenS, rLenQ, rInt1, rTupL, rLstL, rIsN, rNotN, rInT, rAddS, rLtS, rInS1, rNinS1, rIxS, rSlS, rStL, rCt, rSL, tApp, tPopAt, tPopL, tJoinL, tIndex, xFld, xSet, xMeth, xMake, rGetS, rGetI, rInDS, rInDI, xPutS, xPutI, xGet2S, xGet2I, xPopI, rDctD, rLstD, rCatT, HO.ins.injEq, ixN0, ixN1, ixN2, ixN3, atI0, atI1, atI2, atI3, eqV_str, eqV_int, eqV_is, eqV_si, inV_nil, inV_cons, flatV, List.all_cons, List.all_nil, wd_eq, wd_ne0, wd_ne0', List.getElem?_cons_zero, List.getElem?_cons_succ, List.set_cons_zero, List.set_cons_succ, List.cons_append, List.nil_append, List.append_nil, Nat.reduceAdd, Nat.reduceLT, Option.some.injEq, V.int.injEq, V.str.injEq, V.bl.injEq, V.ref.injEq, HO.lst.injEq, HO.tup.injEq, HO.dK.injEq, List.cons.injEq, exists_eq_left, exists_eq_left', exists_eq_right, exists_eq_right', exists_and_left, exists_and_right, exists_const, exists_eq, exists_eq', and_assoc, true_and, and_true, false_and, and_false, true_or, or_true, false_or, or_false, reduceCtorEq, not_true_eq_false, not_false_eq_true, decide_true, decide_false, decide_eq_true_eq, decide_not, Bool.not_true, Bool.not_false, Bool.false_eq_true, Bool.true_and, Bool.and_true, Bool.false_and, Bool.and_false, Bool.true_or, Bool.or_true, Bool.false_or, Bool.or_false, if_true, if_false, ite_true, ite_false, Nat.reduceEqDiff, exists_false, eq_self, upd_same, Bool.not_eq_true', decide_eq_false_iff_not, is_tuple_str hy]
    refine st_seq ?_
    simp only [tIfS, tRet, tRetN, tAsg, gName, gSub, gCons, gNil, gTup, tDrop, tNext, tVar, tC, tOp, tUn, tTest, tB, tAnd, tOr, tNot, tAndV, tOrV, tNotV, tIf, tCons, tNil, xLst, xTup, xDic, tCB, tCall, tChain, tSl, tPart, tNoPart, rI, rI0, rU, rEq, rNe, scal, rXL, rXT, rXQ, rLenL, rLenT, rLenS, rLenQ, rInt1, rTupL, rLstL, rIsN, rNotN, rInT, rAddS, rLtS, rInS1, rNinS1, rIxS, rSlS, rStL, rCt, rSL, tApp, tPopAt, tPopL, tJoinL, tIndex, xFld, xSet, xMeth, xMake, rGetS, rGetI, rInDS, rInDI, xPutS, xPutI, xGet2S, xGet2I, xPopI, rDctD, rLstD, rCatT, HO.ins.injEq, ixN0, ixN1, ixN2, ixN3, atI0, atI1, atI2, atI3, eqV_str, eqV_int, eqV_is, eqV_si, inV_nil, inV_cons, flatV, List.all_cons, List.all_nil, wd_eq, wd_ne0, wd_ne0', List.getElem?_cons_zero, List.getElem?_cons_succ, List.set_cons_zero, List.set_cons_succ, List.cons_append, List.nil_append, List.append_nil, Nat.reduceAdd, Nat.reduceLT, Option.some.injEq, V.int.injEq, V.str.injEq, V.bl.injEq, V.ref.injEq, HO.lst.injEq, HO.tup.injEq, HO.dK.injEq, List.cons.injEq, exists_eq_left, exists_eq_left', exists_eq_right, exists_eq_right', exists_and_left, exists_and_right, exists_const, exists_eq, exists_eq', and_assoc, true_and, and_true, false_and, and_false, true_or, or_true, false_or, or_false, reduceCtorEq, not_true_eq_false, not_false_eq_true, decide_true, decide_false, decide_eq_true_eq, decide_not, Bool.not_true, Bool.not_false, Bool.false_eq_true, Bool.true_and, Bool.and_true, Bool.false_and, Bool.and_false, Bool.true_or, Bool.or_true, Bool.false_or, Bool.or_false, if_true, if_false, ite_true, ite_false, Nat.reduceEqDiff, exists_false, eq_self, upd_same, Bool.not_eq_true', decide_eq_false_iff_not, is_tuple_tuple hy, is_tuple_tuple hx, is_tuple_list hy, is_tuple_list hx]
    refine st_seq ?_
    have e1 := rx.length
    have e2 := ry.length
    simp only [tIfS, tRet, tRetN, tAsg, gName, gSub, gCons, gNil, gTup, tDrop, tNext, tVar, tC, tOp, tUn, tTest, tB, tAnd, tOr, tNot, tAndV, tOrV, tNotV, tIf, tCons, tNil, xLst, xTup, xDic, tCB, tCall, tChain, tSl, tPart, tNoPart, rI, rI0, rU, rEq, rNe, scal, rXL, rXT, rXQ, rLenL, rLenT, rLenS, rLenQ, rInt1, rTupL, rLstL, rIsN, rNotN, rInT, rAddS, rLtS, rInS1, rNinS1, rIxS, rSlS, rStL, rCt, rSL, tApp, tPopAt, tPopL, tJoinL, tIndex, xFld, xSet, xMeth, xMake, rGetS, rGetI, rInDS, rInDI, xPutS, xPutI, xGet2S, xGet2I, xPopI, rDctD, rLstD, rCatT, HO.ins.injEq, ixN0, ixN1, ixN2, ixN3, atI0, atI1, atI2, atI3, eqV_str, eqV_int, eqV_is, eqV_si, inV_nil, inV_cons, flatV, List.all_cons, List.all_nil, wd_eq, wd_ne0, wd_ne0', List.getElem?_cons_zero, List.getElem?_cons_succ, List.set_cons_zero, List.set_cons_succ, List.cons_append, List.nil_append, List.append_nil, Nat.reduceAdd, Nat.reduceLT, Option.some.injEq, V.int.injEq, V.str.injEq, V.bl.injEq, V.ref.injEq, HO.lst.injEq, HO.tup.injEq, HO.dK.injEq, List.cons.injEq, exists_eq_left, exists_eq_left', exists_eq_right, exists_eq_right', exists_and_left, exists_and_right, exists_const, exists_eq, exists_eq', and_assoc, true_and, and_true, false_and, and_false, true_or, or_true, false_or, or_false, reduceCtorEq, not_true_eq_false, not_false_eq_true, decide_true, decide_false, decide_eq_true_eq, decide_not, Bool.not_true, Bool.not_false, Bool.false_eq_true, Bool.true_and, Bool.and_true, Bool.false_and, Bool.and_false, Bool.true_or, Bool.or_true, Bool.false_or, Bool.or_false, if_true, if_false, ite_true, ite_false, Nat.reduceEqDiff, exists_false, eq_self, upd_same, Bool.not_eq_true', decide_eq_false_iff_not, hx, hy]
    rw [e1, e2]
    simp only [tIfS, tRet, tRetN, tAsg, gName, gSub, gCons, gNil, gTup, tDrop, tNext, tVar, tC, tOp, tUn, tTest, tB, tAnd, tOr, tNot, tAndV, tOrV, tNotV, tIf, tCons, tNil, xLst, xTup, xDic, tCB, tCall, tChain, tSl, tPart, tNoPart, rI, rI0, rU, rEq, rNe, scal, rXL, rXT, rXQ, rLenL, rLenT, rLenS, rLenQ, rInt1, rTupL, rLstL, rIsN, rNotN, rInT, rAddS, rLtS, rInS1, rNinS1, rIxS, rSlS, rStL, rCt, rSL, tApp, tPopAt, tPopL, tJoinL, tIndex, xFld, xSet, xMeth, xMake, rGetS, rGetI, rInDS, rInDI, xPutS, xPutI, xGet2S, xGet2I, xPopI, rDctD, rLstD, rCatT, HO.ins.injEq, ixN0, ixN1, ixN2, ixN3, atI0, atI1, atI2, atI3, eqV_str, eqV_int, eqV_is, eqV_si, inV_nil, inV_cons, flatV, List.all_cons, List.all_nil, wd_eq, wd_ne0, wd_ne0', List.getElem?_cons_zero, List.getElem?_cons_succ, List.set_cons_zero, List.set_cons_succ, List.cons_append, List.nil_append, List.append_nil, Nat.reduceAdd, Nat.reduceLT, Option.some.injEq, V.int.injEq, V.str.injEq, V.bl.injEq, V.ref.injEq, HO.lst.injEq, HO.tup.injEq, HO.dK.injEq, List.cons.injEq, exists_eq_left, exists_eq_left', exists_eq_right, exists_eq_right', exists_and_left, exists_and_right, exists_const, exists_eq, exists_eq', and_assoc, true_and, and_true, false_and, and_false, true_or, or_true, false_or, or_false, reduceCtorEq, not_true_eq_false, not_false_eq_true, decide_true, decide_false, decide_eq_true_eq, decide_not, Bool.not_true, Bool.not_false, Bool.false_eq_true, Bool.true_and, Bool.and_true, Bool.false_and, Bool.and_false, Bool.true_or, Bool.or_true, Bool.false_or, Bool.or_false, if_true, if_false, ite_true, ite_false, Nat.reduceEqDiff, exists_false, eq_self, upd_same, Bool.not_eq_true', decide_eq_false_iff_not, eq_self]
    exact alike_loop (.inr hx) (.inr hy) rx ry (depth_lt_list (by simp only [PyData.depth] at hd; omega)) k (K := K) (Nat.lt_of_le_of_lt ((hw _).2.1 _ hy) (by decide))
  | dict kvs => cases hx
end Hn

namespace Hn
open PySem PySem.Spec PyProof.Rows L2
section
variable {p q : Prop} [Decidable p] [Decidable q] {X Y : Prop}
theorem i2 (h1 : p → X) (h2 : ¬ p → Y) : if p then X else Y := by
  split
  · next h => exact h1 h
  · next h => exact h2 h
theorem or2 (h1 : p ∨ q → X) (h2 : ¬ p → ¬ q → Y) : if p then X else if q then X else Y := i2 (fun h => h1 (.inl h)) fun h => i2 (fun h' => h1 (.inr h')) fun h' => h2 h h'
theorem and2 (h1 : p → q → X) (h2 : ¬ (p ∧ q) → Y) : if p then (if q then X else Y) else Y := i2 (fun h => i2 (fun h' => h1 h h') fun h' => h2 fun z => h' z.2) fun h => h2 fun z => h z.1
end
/-! ### promises of the makers of programs, and of codes -/
def rowC (f k m : Nat) : Nat := (if k < 2 then 8 else m) * f
def stC : Nat → Nat
  | 0 => 1
  | k + 1 => 1 + rowC (stC k) k 3 + rowC (stC k) k 2
def sp_L_name : Sp := fun vs H Q _ => ∃ (b l : Addr), vs = [.ref b] ∧ BoxAt H b l ∧ ∀ x H', Nm8 x → BoxAt H' b l → Fr [b, l] H H' → Q (.str x) H'
theorem len_L_name (vs : List V) (H : Hp) (Q : VK) (E : XK) (h : sp_L_name vs H Q E) : vs.length = 1 := by
  obtain ⟨_, _, rfl, _⟩ := h
  rfl
def sp_L_part (n : Nat) : Sp := fun vs H Q _ => ∃ (b l : Addr) (k : Nat), vs = [.ref b, .int k] ∧ BoxAt H b l ∧ k < n ∧ ∀ (e : Ex) v H', e.ok → e.dep ≤ k + 1 → Tp H' e.d v → BoxAt H' b l → Fr [b, l] H H' → Q v H'
theorem len_L_part {n : Nat} (vs : List V) (H : Hp) (Q : VK) (E : XK) (h : sp_L_part n vs H Q E) : vs.length = 2 := by
  obtain ⟨_, _, _, rfl, _⟩ := h
  rfl
theorem no_L_part (vs : List V) (H : Hp) (Q : VK) (E : XK) : ¬ sp_L_part 0 vs H Q E := fun ⟨_, _, _, _, _, h, _⟩ => absurd h (Nat.not_lt_zero _)
def sp_L_row (n : Nat) : Sp := fun vs H Q _ => ∃ (b l : Addr) (k m : Nat), vs = [.ref b, .int k, .int m] ∧ BoxAt H b l ∧ 2 * k + 1 < n ∧ m ≤ 8 ∧
  ∀ (p : List Sm) v H', okL 5 p → dpL p ≤ 2 * k + 2 → cntL p ≤ rowC (stC k) k m → Tp H' (rowD p) v → BoxAt H' b l → Fr [b, l] H H' → Q v H'
theorem len_L_row {n : Nat} (vs : List V) (H : Hp) (Q : VK) (E : XK) (h : sp_L_row n vs H Q E) : vs.length = 3 := by
  obtain ⟨_, _, _, _, rfl, _⟩ := h
  rfl
theorem no_L_row (vs : List V) (H : Hp) (Q : VK) (E : XK) : ¬ sp_L_row 0 vs H Q E := fun ⟨_, _, _, _, _, _, h, _⟩ => absurd h (Nat.not_lt_zero _)
def sp_L_statement (n : Nat) : Sp := fun vs H Q _ => ∃ (b l : Addr) (k : Nat), vs = [.ref b, .int k] ∧ BoxAt H b l ∧ 2 * k < n ∧
  ∀ (s : Sm) v H', s.ok 5 → s.dp ≤ 2 * k + 1 → s.cnt ≤ stC k → Tp H' s.d v → BoxAt H' b l → Fr [b, l] H H' → Q v H'
theorem len_L_statement {n : Nat} (vs : List V) (H : Hp) (Q : VK) (E : XK) (h : sp_L_statement n vs H Q E) : vs.length = 2 := by
  obtain ⟨_, _, _, rfl, _⟩ := h
  rfl
theorem no_L_statement (vs : List V) (H : Hp) (Q : VK) (E : XK) : ¬ sp_L_statement 0 vs H Q E := fun ⟨_, _, _, _, _, h, _⟩ => absurd h (Nat.not_lt_zero _)
/-- a row, within a while that counts down -/
def countP (t : Int) (p : List Sm) : List Sm := [.set ("d" : Str) (.num t), .whl (.name ("d" : Str)) (p ++ [.set ("d" : Str) (.op .sub (.name ("d" : Str)) (.num 1))])]
def sp_L_counted : Sp := fun vs H Q _ => ∃ (v : V) (t : Int) (p : List Sm), vs = [v, .int t] ∧ Tp H (rowD p) v ∧ cntL p ≤ 20000 ∧ ∀ v' H', Tp H' (rowD (countP t p)) v' → Fr [] H H' → Q v' H'
theorem len_L_counted (vs : List V) (H : Hp) (Q : VK) (E : XK) (h : sp_L_counted vs H Q E) : vs.length = 2 := by
  obtain ⟨_, _, _, rfl, _⟩ := h
  rfl
def sp_L_program : Sp := fun vs H Q _ => ∃ (b l : Addr), vs = [.ref b, .int 3] ∧ BoxAt H b l ∧ ∀ (p : List Sm) v H', okL 5 p → dpL p ≤ 10 → cntL p ≤ 10940 → Tp H' (rowD p) v → BoxAt H' b l → Fr [b, l] H H' → Q v H'
theorem len_L_program (vs : List V) (H : Hp) (Q : VK) (E : XK) (h : sp_L_program vs H Q E) : vs.length = 2 := by
  obtain ⟨_, _, rfl, _⟩ := h
  rfl
def sp_L_part_code (n : Nat) : Sp := fun vs H Q _ => ∃ (v : V) (e : Ex), vs = [v] ∧ Tp H e.d v ∧ e.dep ≤ n ∧ e.dep ≤ 10 ∧ ∀ a xs H', H' a = some (.lst xs) → TpL H' (e.code.map Rw.d) xs → Fr [] H H' → Q (.ref a) H'
theorem len_L_part_code {n : Nat} (vs : List V) (H : Hp) (Q : VK) (E : XK) (h : sp_L_part_code n vs H Q E) : vs.length = 1 := by
  obtain ⟨_, _, rfl, _⟩ := h
  rfl
theorem Ex.dep_pos (e : Ex) : 0 < e.dep := by cases e <;> simp only [Ex.dep] <;> omega
theorem no_L_part_code (vs : List V) (H : Hp) (Q : VK) (E : XK) : ¬ sp_L_part_code 0 vs H Q E := fun ⟨_, e, _, _, h, _⟩ => absurd e.dep_pos (by omega)
theorem Sm.dp_pos (s : Sm) : 0 < s.dp := by cases s <;> simp only [Sm.dp] <;> omega
theorem dpL_pos (l : List Sm) : 0 < dpL l := by cases l <;> simp only [dpL] <;> omega
theorem Un.dp_pos (o : Un) : 0 < o.dp := by
  cases o with
  | row l => exact dpL_pos l
  | st s => exact s.dp_pos
def sp_L_code (n : Nat) : Sp := fun vs H Q _ => ∃ (v : V) (b : Nat) (o : Un), vs = [v, .int b] ∧ Tp H o.d v ∧ o.dp ≤ n ∧ o.ok 5 ∧ o.cnt ≤ 20000 ∧ ∀ a xs H', H' a = some (.lst xs) → TpL H' ((o.code b).map Rw.d) xs → Fr [] H H' → Q (.ref a) H'
theorem len_L_code {n : Nat} (vs : List V) (H : Hp) (Q : VK) (E : XK) (h : sp_L_code n vs H Q E) : vs.length = 2 := by
  obtain ⟨_, _, _, rfl, _⟩ := h
  rfl
theorem no_L_code (vs : List V) (H : Hp) (Q : VK) (E : XK) : ¬ sp_L_code 0 vs H Q E := fun ⟨_, _, o, _, _, h, _⟩ => absurd o.dp_pos (by omega)
/-- all rows of a program -/
def progC (p : List Sm) : List Rw := codeL p 0 ++ [.fin]
def rowsD (rs : List Rw) : PyData := .tuple (rs.map Rw.d)
def PrOk (p : List Sm) : Prop := okL 5 p ∧ dpL p ≤ 12 ∧ cntL p ≤ 20000
def sp_L_coded : Sp := fun vs H Q _ => ∃ (v : V) (p : List Sm), vs = [v] ∧ Tp H (rowD p) v ∧ PrOk p ∧ ∀ v' H', Tp H' (rowsD (progC p)) v' → Fr [] H H' → Q v' H'
theorem len_L_coded (vs : List V) (H : Hp) (Q : VK) (E : XK) (h : sp_L_coded vs H Q E) : vs.length = 1 := by
  obtain ⟨_, _, rfl, _⟩ := h
  rfl
def sp_coded : Sp := sp_L_coded
theorem len_coded (vs : List V) (H : Hp) (Q : VK) (E : XK) (h : sp_coded vs H Q E) : vs.length = 1 := len_L_coded vs H Q E h
/-! Coder -/
def CoderAt (c : CA) (H : Hp) (o m : Addr) (xs : List V) : Prop := (∃ dx, H o = some (.ins c.coder dx [("made", .ref m)])) ∧ H m = some (.lst xs)
def sp_Coder___init__ (c : CA) : Sp := fun vs H Q _ => ∃ (o dx : Addr), vs = [.ref o] ∧ H o = some (.ins c.coder dx []) ∧ ∀ m H', H m = none → CoderAt c H' o m [] → Fr [o] H H' → Q .non H'
theorem len_Coder___init__ {c : CA} (vs : List V) (H : Hp) (Q : VK) (E : XK) (h : sp_Coder___init__ c vs H Q E) : vs.length = 1 := by
  obtain ⟨_, _, rfl, _⟩ := h
  rfl
def sp_Coder_put (c : CA) : Sp := fun vs H Q _ => ∃ (o m : Addr) (v : V) (xs : List V), vs = [.ref o, v] ∧ CoderAt c H o m xs ∧ xs.length < 4194304 ∧ ∀ H', CoderAt c H' o m (xs ++ [v]) → Fr [m] H H' → Q (.int xs.length) H'
theorem len_Coder_put {c : CA} (vs : List V) (H : Hp) (Q : VK) (E : XK) (h : sp_Coder_put c vs H Q E) : vs.length = 2 := by
  obtain ⟨_, _, _, _, rfl, _⟩ := h
  rfl
def sp_Coder_part (c : CA) (n : Nat) : Sp := fun vs H Q _ => ∃ (o m : Addr) (v : V) (xs : List V) (rs : List Rw) (e : Ex), vs = [.ref o, v] ∧ CoderAt c H o m xs ∧ TpL H (rs.map Rw.d) xs ∧ Tp H e.d v ∧ e.dep ≤ n ∧ rs.length + e.code.length < 4194304 ∧
  ∀ xs' H', CoderAt c H' o m xs' → TpL H' ((rs ++ e.code).map Rw.d) xs' → Fr [m] H H' → Q .non H'
theorem len_Coder_part {c : CA} {n : Nat} (vs : List V) (H : Hp) (Q : VK) (E : XK) (h : sp_Coder_part c n vs H Q E) : vs.length = 2 := by
  obtain ⟨_, _, _, _, _, _, rfl, _⟩ := h
  rfl
theorem no_Coder_part {c : CA} (vs : List V) (H : Hp) (Q : VK) (E : XK) : ¬ sp_Coder_part c 0 vs H Q E := fun ⟨_, _, _, _, _, e, _, _, _, _, h, _⟩ => absurd e.dep_pos (by omega)
def spLay (c : CA) (n j : Nat) (good : Un → Prop) : Sp := fun vs H Q _ => ∃ (o m : Addr) (v : V) (xs : List V) (rs : List Rw) (u : Un), vs = [.ref o, v] ∧ CoderAt c H o m xs ∧ TpL H (rs.map Rw.d) xs ∧ Tp H u.d v ∧ good u ∧ 2 * u.dp ≤ n + j ∧ u.ok 5 ∧ rs.length + 35 * u.cnt < 4194304 ∧
  ∀ xs' H', CoderAt c H' o m xs' → TpL H' ((rs ++ u.code rs.length).map Rw.d) xs' → Fr [m] H H' → Q .non H'
theorem len_spLay {c : CA} {n j : Nat} {g : Un → Prop} (vs : List V) (H : Hp) (Q : VK) (E : XK) (h : spLay c n j g vs H Q E) : vs.length = 2 := by
  obtain ⟨_, _, _, _, _, _, rfl, _⟩ := h
  rfl
theorem no_spLay {c : CA} {j : Nat} {g : Un → Prop} (hj : j ≤ 1) (vs : List V) (H : Hp) (Q : VK) (E : XK) : ¬ spLay c 0 j g vs H Q E := fun ⟨_, _, _, _, _, u, _, _, _, _, _, h, _⟩ => absurd u.dp_pos (by omega)
def isIte : Un → Prop
  | .st (.ite _ _ _) => True
  | _ => False
def isWhl : Un → Prop
  | .st (.whl _ _) => True
  | _ => False
def sp_Coder_lay (c : CA) (n : Nat) : Sp := spLay c n 0 fun _ => True
def sp_Coder_choice (c : CA) (n : Nat) : Sp := spLay c n 1 isIte
def sp_Coder_loop (c : CA) (n : Nat) : Sp := spLay c n 1 isWhl
theorem len_Coder_lay {c : CA} {n : Nat} (vs : List V) (H : Hp) (Q : VK) (E : XK) (h : sp_Coder_lay c n vs H Q E) : vs.length = 2 := len_spLay vs H Q E h
theorem len_Coder_choice {c : CA} {n : Nat} (vs : List V) (H : Hp) (Q : VK) (E : XK) (h : sp_Coder_choice c n vs H Q E) : vs.length = 2 := len_spLay vs H Q E h
theorem len_Coder_loop {c : CA} {n : Nat} (vs : List V) (H : Hp) (Q : VK) (E : XK) (h : sp_Coder_loop c n vs H Q E) : vs.length = 2 := len_spLay vs H Q E h
theorem no_Coder_lay {c : CA} (vs : List V) (H : Hp) (Q : VK) (E : XK) : ¬ sp_Coder_lay c 0 vs H Q E := no_spLay (by decide) vs H Q E
theorem no_Coder_choice {c : CA} (vs : List V) (H : Hp) (Q : VK) (E : XK) : ¬ sp_Coder_choice c 0 vs H Q E := no_spLay (by decide) vs H Q E
theorem no_Coder_loop {c : CA} (vs : List V) (H : Hp) (Q : VK) (E : XK) : ¬ sp_Coder_loop c 0 vs H Q E := no_spLay (by decide) vs H Q E
theorem CoderAt.al {c : CA} {H H' : Hp} {o m p : Addr} {xs : List V} {u : HO} (h : CoderAt c H o m xs) (a : Al H p u H') : CoderAt c H' o m xs := ⟨⟨_, a.k h.1.choose_spec⟩, a.k h.2⟩
def sp_law (K : PySem.W.Frag) : Sp := fun vs H Q _ => ∃ (a : Addr) (ns : List Int), vs = [.ref a] ∧ SqL K H a (ns.map V.int) ∧ ns.length ≤ 63 ∧ ∀ H', Q (.bl true) H'
theorem len_law {K : PySem.W.Frag} (vs : List V) (H : Hp) (Q : VK) (E : XK) (h : sp_law K vs H Q E) : vs.length = 1 := by
  obtain ⟨_, _, rfl, _⟩ := h
  rfl
end Hn

namespace Hn
open PySem PySem.Spec PyProof.Rows L2
/-- _law_name -/
def t_L_name (K : PySem.W.Frag) : TS :=
  (tSeq (tAsg (tOp (rI CMul fun i j => .int (i * j)) (tC (.int 4)) (tCB rInt1 (tCons (tOp rEq (tCall sp_L_take [] E0 (tCons (tVar 0) (tCons (tC (.int 6)) tNil))) (tC (.int 1))) tNil))) (gName 1))
    (tRet (tOp rIxS (tC (.str ("abcdefgh" : Str))) (tOp (rI0 fun i j => .int (i + j)) (tCall sp_L_take [] E0 (tCons (tVar 0) (tCons (tC (.int 4)) tNil))) (tVar 1)))))

/-- _law_part from 4 -/
def t_L_part_4 (K : PySem.W.Frag) (n : Nat) : TS :=
  (tSeq (tAsg (tCall (sp_L_part n) [] E0 (tCons (tVar 0) (tCons (tOp (rI0 fun i j => .int (i - j)) (tVar 1) (tC (.int 1))) tNil))) (gName 4))
    (tRet (xTup (tCons (tVar 3) (tCons (tVar 4) (tCons (tCall (sp_L_part n) [] E0 (tCons (tVar 0) (tCons (tOp (rI0 fun i j => .int (i - j)) (tVar 1) (tC (.int 1))) tNil))) tNil))))))

/-- _law_part from 3 -/
def t_L_part_3 (K : PySem.W.Frag) (n : Nat) : TS :=
  tSeq (tAsg (tOp rXL (xLst (tCons (tC (.str (wd 3))) (tCons (tC (.str (wd 4))) (tCons (tC (.str (wd 5))) (tCons (tC (.str (wd 6))) tNil))))) (tCall sp_L_take [] E0 (tCons (tVar 0) (tCons (tC (.int 4)) tNil)))) (gName 3)) (t_L_part_4 K n)

/-- _law_part from 2 -/
def t_L_part_2 (K : PySem.W.Frag) (n : Nat) : TS :=
  tSeq (tIfS (tOr (tTest (tOp rEq (tVar 1) (tC (.int 0)))) (tTest (tOp (rI0 fun i j => .bl (decide (i < j))) (tVar 2) (tC (.int 6))))) (tSeq (tIfS (tTest (tOp rEq (tVar 2) (tC (.int 5)))) (tRet (xTup (tCons (tC (.str (wd 1))) (tCons (tCall sp_L_text [] E0 (tCons (tVar 0) tNil)) tNil)))) tNext)
    (tRet (xTup (tCons (tC (.str (wd 0))) (tCons (tOp rXL (xLst (tCons (tCall sp_L_take [] E0 (tCons (tVar 0) (tCons (tC (.int 4)) tNil))) (tCons (tCall sp_L_take [] E0 (tCons (tVar 0) (tCons (tC (.int 10000)) tNil))) tNil))) (tCB rInt1 (tCons (tOp rEq (tVar 2) (tC (.int 4))) tNil))) tNil))))) tNext) (t_L_part_3 K n)

/-- _law_part from 1 -/
def t_L_part_1 (K : PySem.W.Frag) (n : Nat) : TS :=
  tSeq (tIfS (tTest (tOp (rI0 fun i j => .bl (decide (i < j))) (tVar 2) (tC (.int 4)))) (tRet (xTup (tCons (tC (.str (wd 2))) (tCons (tCall sp_L_name [] E0 (tCons (tVar 0) tNil)) tNil)))) tNext) (t_L_part_2 K n)

/-- _law_part -/
def t_L_part (K : PySem.W.Frag) (n : Nat) : TS :=
  tSeq (tAsg (tCall sp_L_take [] E0 (tCons (tVar 0) (tCons (tC (.int 9)) tNil))) (gName 2)) (t_L_part_1 K n)

/-- _law_row from 1 -/
def t_L_row_1 (K : PySem.W.Frag) (n : Nat) : TS :=
  (tRet (xTup (tCons (tC (.str (wd 13))) (tCons (tCB rTupL (tCons (tLc (iRng1 (tCons (tVar 2) tNil)) (gName 3) tYes (tCall (sp_L_statement n) [] E0 (tCons (tVar 0) (tCons (tVar 1) tNil))) [3]) tNil)) tNil))))

/-- _law_row -/
def t_L_row (K : PySem.W.Frag) (n : Nat) : TS :=
  tSeq (tIfS (tAnd (tTest (tOp (rI0 fun i j => .bl (decide (i < j))) (tVar 1) (tC (.int 2)))) (tTest (tOp rEq (tCall sp_L_take [] E0 (tCons (tVar 0) (tCons (tC (.int 8)) tNil))) (tC (.int 1))))) (tAsg (tCall sp_L_take [] E0 (tCons (tVar 0) (tCons (tC (.int 9)) tNil))) (gName 2)) tNext) (t_L_row_1 K n)

/-- _law_statement from 5 -/
def t_L_statement_5 (K : PySem.W.Frag) (n : Nat) : TS :=
  (tSeq (tIfS (tTest (tOp (rI0 fun i j => .bl (decide (i < j))) (tVar 2) (tC (.int 7)))) (tRet (xTup (tCons (tC (.str (wd 14))) (tCons (tVar 4) (tCons (tVar 5) (tCons (tCall (sp_L_row n) [] E0 (tCons (tVar 0) (tCons (tOp (rI0 fun i j => .int (i - j)) (tVar 1) (tC (.int 1))) (tCons (tCall sp_L_take [] E0 (tCons (tVar 0) (tCons (tC (.int 3)) tNil))) tNil)))) tNil)))))) tNext)
    (tRet (xTup (tCons (tC (.str (wd 15))) (tCons (tVar 4) (tCons (tVar 5) tNil))))))

/-- _law_statement from 4 -/
def t_L_statement_4 (K : PySem.W.Frag) (n : Nat) : TS :=
  tSeq (tAsg (tCall (sp_L_row n) [] E0 (tCons (tVar 0) (tCons (tOp (rI0 fun i j => .int (i - j)) (tVar 1) (tC (.int 1))) (tCons (tCall sp_L_take [] E0 (tCons (tVar 0) (tCons (tC (.int 4)) tNil))) tNil)))) (gName 5)) (t_L_statement_5 K n)

/-- _law_statement from 3 -/
def t_L_statement_3 (K : PySem.W.Frag) (n : Nat) : TS :=
  tSeq (tAsg (tCall (sp_L_part 6) [] E0 (tCons (tVar 0) (tCons (tC (.int 2)) tNil))) (gName 4)) (t_L_statement_4 K n)

/-- _law_statement from 2 -/
def t_L_statement_2 (K : PySem.W.Frag) (n : Nat) : TS :=
  tSeq (tIfS (tOr (tTest (tOp rEq (tVar 1) (tC (.int 0)))) (tTest (tOp (rI0 fun i j => .bl (decide (i < j))) (tVar 2) (tC (.int 5))))) (tSeq (tIfS (tTest (tOp (rInT false) (tVar 2) (xTup (tCons (tC (.int 0)) (tCons (tC (.int 1)) (tCons (tC (.int 9)) tNil)))))) (tRet (xTup (tCons (tC (.str (wd 7))) (tCons (tCall (sp_L_part 6) [] E0 (tCons (tVar 0) (tCons (tVar 3) tNil))) tNil)))) tNext)
    (tRet (xTup (tCons (tC (.str (wd 8))) (tCons (tCall sp_L_name [] E0 (tCons (tVar 0) tNil)) (tCons (tCall (sp_L_part 6) [] E0 (tCons (tVar 0) (tCons (tVar 3) tNil))) tNil)))))) tNext) (t_L_statement_3 K n)

/-- _law_statement from 1 -/
def t_L_statement_1 (K : PySem.W.Frag) (n : Nat) : TS :=
  tSeq (tAsg (tOp rXL (xLst (tCons (tC (.int 2)) (tCons (tC (.int 4)) tNil))) (tCB rInt1 (tCons (tOp rEq (tCall sp_L_take [] E0 (tCons (tVar 0) (tCons (tC (.int 8)) tNil))) (tC (.int 1))) tNil))) (gName 3)) (t_L_statement_2 K n)

/-- _law_statement -/
def t_L_statement (K : PySem.W.Frag) (n : Nat) : TS :=
  tSeq (tAsg (tCall sp_L_take [] E0 (tCons (tVar 0) (tCons (tC (.int 10)) tNil))) (gName 2)) (t_L_statement_1 K n)

/-- _law_counted from 1 -/
def t_L_counted_1 (K : PySem.W.Frag) : TS :=
  (tSeq (tAsg (xTup (tCons (tC (.str (wd 15))) (tCons (xTup (tCons (tC (.str (wd 2))) (tCons (tC (.str ("d" : Str))) tNil))) (tCons (xTup (tCons (tC (.str (wd 13))) (tCons (tOp rCatT (tOp rXT (tVar 0) (tC (.int 1))) (xTup (tCons (tVar 2) tNil))) tNil))) tNil)))) (gName 3))
    (tRet (xTup (tCons (tC (.str (wd 13))) (tCons (xTup (tCons (xTup (tCons (tC (.str (wd 8))) (tCons (tC (.str ("d" : Str))) (tCons (xTup (tCons (tC (.str (wd 0))) (tCons (tVar 1) tNil))) tNil)))) (tCons (tVar 3) tNil))) tNil)))))

/-- _law_counted -/
def t_L_counted (K : PySem.W.Frag) : TS :=
  tSeq (tAsg (xTup (tCons (tC (.str (wd 8))) (tCons (tC (.str ("d" : Str))) (tCons (xTup (tCons (tC (.str (wd 4))) (tCons (xTup (tCons (tC (.str (wd 2))) (tCons (tC (.str ("d" : Str))) tNil))) (tCons (xTup (tCons (tC (.str (wd 0))) (tCons (tC (.int 1)) tNil))) tNil)))) tNil)))) (gName 2)) (t_L_counted_1 K)

/-- _law_program from 4 -/
def t_L_program_4 (K : PySem.W.Frag) : TS :=
  (tRet (tVar 3))

/-- _law_program from 3 -/
def t_L_program_3 (K : PySem.W.Frag) : TS :=
  tSeq (tIfS (tTest (tOp rEq (tCall sp_L_take [] E0 (tCons (tVar 0) (tCons (tC (.int 2)) tNil))) (tC (.int 1)))) (tAsg (tCall sp_L_counted [] E0 (tCons (tVar 3) (tCons (tOp (rI0 fun i j => .int (i + j)) (tC (.int 1)) (tCall sp_L_take [] E0 (tCons (tVar 0) (tCons (tC (.int 20)) tNil)))) tNil))) (gName 3)) tNext) (t_L_program_4 K)

/-- _law_program from 2 -/
def t_L_program_2 (K : PySem.W.Frag) : TS :=
  tSeq (tAsg (tCall (sp_L_row 8) [] E0 (tCons (tVar 0) (tCons (tVar 1) (tCons (tVar 2) tNil)))) (gName 3)) (t_L_program_3 K)

/-- _law_program from 1 -/
def t_L_program_1 (K : PySem.W.Frag) : TS :=
  tSeq (tIfS (tTest (tOp rEq (tCall sp_L_take [] E0 (tCons (tVar 0) (tCons (tC (.int 8)) tNil))) (tC (.int 1)))) (tAsg (tOp (rI0 fun i j => .int (i + j)) (tC (.int 1)) (tCall sp_L_take [] E0 (tCons (tVar 0) (tCons (tC (.int 8)) tNil)))) (gName 2)) tNext) (t_L_program_2 K)

/-- _law_program -/
def t_L_program (K : PySem.W.Frag) : TS :=
  tSeq (tAsg (tOp (rI0 fun i j => .int (i + j)) (tC (.int 1)) (tCall sp_L_take [] E0 (tCons (tVar 0) (tCons (tC (.int 3)) tNil)))) (gName 2)) (t_L_program_1 K)

theorem abc8 : ("abcdefgh" : Str).cps.toList = [97, 98, 99, 100, 101, 102, 103, 104] := by decide +kernel
theorem abc8_len : ("abcdefgh" : Str).length ≤ sizeLine := by decide +kernel
theorem abc8_at {i : Int} (h0 : 0 ≤ i) (h1 : i < 8) : ∃ c : Nat, atI ("abcdefgh" : Str).cps.toList i = some c ∧ Nm8 ⟨#[c]⟩ := by
  rw [abc8]
  have hi : i = 0 ∨ i = 1 ∨ i = 2 ∨ i = 3 ∨ i = 4 ∨ i = 5 ∨ i = 6 ∨ i = 7 := by omega
  rcases hi with hi | hi | hi | hi | hi | hi | hi | hi <;> subst hi
  · exact ⟨97, rfl, 0, by decide, rfl⟩
  · exact ⟨98, rfl, 1, by decide, rfl⟩
  · exact ⟨99, rfl, 2, by decide, rfl⟩
  · exact ⟨100, rfl, 3, by decide, rfl⟩
  · exact ⟨101, rfl, 4, by decide, rfl⟩
  · exact ⟨102, rfl, 5, by decide, rfl⟩
  · exact ⟨103, rfl, 6, by decide, rfl⟩
  · exact ⟨104, rfl, 7, by decide, rfl⟩
theorem nm_d : Nm8 ("d" : Str) := ⟨3, by decide, by decide +kernel⟩
theorem rd_L_name {K : PySem.W.Frag} {vs : List V} {H : Hp} {Q : VK} {E : XK} (h : sp_L_name vs H Q E) : t_L_name K { nx := fun _ H' => Q .non H', rt := Q } (start ["_", "_"] vs) H := by
  obtain ⟨b, l, rfl, B, k⟩ := h
  show t_L_name K _ [some (.ref b), none] H
  unfold t_L_name; refine st_seq ?_
  simp only [tIfS, tRet, tRetN, tAsg, gName, gSub, gCons, gNil, gTup, tDrop, tNext, tVar, tC, tOp, tUn, tTest, tB, tAnd, tOr, tNot, tAndV, tOrV, tNotV, tIf, tCons, tNil, xLst, xTup, xDic, tCB, tCall, tChain, tSl, tPart, tNoPart, rI, rI0, rU, rEq, rNe, scal, rXL, rXT, rXQ, rLenL, rLenT, rLenS, rLenQ, rInt1, rTupL, rLstL, rIsN, rNotN, rInT, rAddS, rLtS, rInS1, rNinS1, rIxS, rSlS, rStL, rCt, rSL, tApp, tPopAt, tPopL, tJoinL, tIndex, xFld, xSet, xMeth, xMake, rGetS, rGetI, rInDS, rInDI, xPutS, xPutI, xGet2S, xGet2I, xPopI, rDctD, rLstD, rCatT, HO.ins.injEq, ixN0, ixN1, ixN2, ixN3, atI0, atI1, atI2, atI3, eqV_str, eqV_int, eqV_is, eqV_si, inV_nil, inV_cons, flatV, List.all_cons, List.all_nil, wd_eq, wd_ne0, wd_ne0', List.getElem?_cons_zero, List.getElem?_cons_succ, List.set_cons_zero, List.set_cons_succ, List.cons_append, List.nil_append, List.append_nil, Nat.reduceAdd, Nat.reduceLT, Option.some.injEq, V.int.injEq, V.str.injEq, V.bl.injEq, V.ref.injEq, HO.lst.injEq, HO.tup.injEq, HO.dK.injEq, List.cons.injEq, exists_eq_left, exists_eq_left', exists_eq_right, exists_eq_right', exists_and_left, exists_and_right, exists_const, exists_eq, exists_eq', and_assoc, true_and, and_true, false_and, and_false, true_or, or_true, false_or, or_false, reduceCtorEq, not_true_eq_false, not_false_eq_true, decide_true, decide_false, decide_eq_true_eq, decide_not, Bool.not_true, Bool.not_false, Bool.false_eq_true, Bool.true_and, Bool.and_true, Bool.false_and, Bool.and_false, Bool.true_or, Bool.or_true, Bool.false_or, Bool.or_false, if_true, if_false, ite_true, ite_false, Nat.reduceEqDiff, exists_false, eq_self, upd_same, Bool.not_eq_true', decide_eq_false_iff_not]
  refine ⟨b, l, 6, rfl, B, by decide, by decide, fun r H1 r0 r1 B1 f1 => ?_⟩
  simp only [tIfS, tRet, tRetN, tAsg, gName, gSub, gCons, gNil, gTup, tDrop, tNext, tVar, tC, tOp, tUn, tTest, tB, tAnd, tOr, tNot, tAndV, tOrV, tNotV, tIf, tCons, tNil, xLst, xTup, xDic, tCB, tCall, tChain, tSl, tPart, tNoPart, rI, rI0, rU, rEq, rNe, scal, rXL, rXT, rXQ, rLenL, rLenT, rLenS, rLenQ, rInt1, rTupL, rLstL, rIsN, rNotN, rInT, rAddS, rLtS, rInS1, rNinS1, rIxS, rSlS, rStL, rCt, rSL, tApp, tPopAt, tPopL, tJoinL, tIndex, xFld, xSet, xMeth, xMake, rGetS, rGetI, rInDS, rInDI, xPutS, xPutI, xGet2S, xGet2I, xPopI, rDctD, rLstD, rCatT, HO.ins.injEq, ixN0, ixN1, ixN2, ixN3, atI0, atI1, atI2, atI3, eqV_str, eqV_int, eqV_is, eqV_si, inV_nil, inV_cons, flatV, List.all_cons, List.all_nil, wd_eq, wd_ne0, wd_ne0', List.getElem?_cons_zero, List.getElem?_cons_succ, List.set_cons_zero, List.set_cons_succ, List.cons_append, List.nil_append, List.append_nil, Nat.reduceAdd, Nat.reduceLT, Option.some.injEq, V.int.injEq, V.str.injEq, V.bl.injEq, V.ref.injEq, HO.lst.injEq, HO.tup.injEq, HO.dK.injEq, List.cons.injEq, exists_eq_left, exists_eq_left', exists_eq_right, exists_eq_right', exists_and_left, exists_and_right, exists_const, exists_eq, exists_eq', and_assoc, true_and, and_true, false_and, and_false, true_or, or_true, false_or, or_false, reduceCtorEq, not_true_eq_false, not_false_eq_true, decide_true, decide_false, decide_eq_true_eq, decide_not, Bool.not_true, Bool.not_false, Bool.false_eq_true, Bool.true_and, Bool.and_true, Bool.false_and, Bool.and_false, Bool.true_or, Bool.or_true, Bool.false_or, Bool.or_false, if_true, if_false, ite_true, ite_false, Nat.reduceEqDiff, exists_false, eq_self, upd_same, Bool.not_eq_true', decide_eq_false_iff_not]
  refine ⟨.inl ⟨by decide, by decide⟩, b, l, 4, rfl, B1, by decide, by decide, fun s H2 s0 s1 B2 f2 => ?_⟩
  simp only [tIfS, tRet, tRetN, tAsg, gName, gSub, gCons, gNil, gTup, tDrop, tNext, tVar, tC, tOp, tUn, tTest, tB, tAnd, tOr, tNot, tAndV, tOrV, tNotV, tIf, tCons, tNil, xLst, xTup, xDic, tCB, tCall, tChain, tSl, tPart, tNoPart, rI, rI0, rU, rEq, rNe, scal, rXL, rXT, rXQ, rLenL, rLenT, rLenS, rLenQ, rInt1, rTupL, rLstL, rIsN, rNotN, rInT, rAddS, rLtS, rInS1, rNinS1, rIxS, rSlS, rStL, rCt, rSL, tApp, tPopAt, tPopL, tJoinL, tIndex, xFld, xSet, xMeth, xMake, rGetS, rGetI, rInDS, rInDI, xPutS, xPutI, xGet2S, xGet2I, xPopI, rDctD, rLstD, rCatT, HO.ins.injEq, ixN0, ixN1, ixN2, ixN3, atI0, atI1, atI2, atI3, eqV_str, eqV_int, eqV_is, eqV_si, inV_nil, inV_cons, flatV, List.all_cons, List.all_nil, wd_eq, wd_ne0, wd_ne0', List.getElem?_cons_zero, List.getElem?_cons_succ, List.set_cons_zero, List.set_cons_succ, List.cons_append, List.nil_append, List.append_nil, Nat.reduceAdd, Nat.reduceLT, Option.some.injEq, V.int.injEq, V.str.injEq, V.bl.injEq, V.ref.injEq, HO.lst.injEq, HO.tup.injEq, HO.dK.injEq, List.cons.injEq, exists_eq_left, exists_eq_left', exists_eq_right, exists_eq_right', exists_and_left, exists_and_right, exists_const, exists_eq, exists_eq', and_assoc, true_and, and_true, false_and, and_false, true_or, or_true, false_or, or_false, reduceCtorEq, not_true_eq_false, not_false_eq_true, decide_true, decide_false, decide_eq_true_eq, decide_not, Bool.not_true, Bool.not_false, Bool.false_eq_true, Bool.true_and, Bool.and_true, Bool.false_and, Bool.and_false, Bool.true_or, Bool.or_true, Bool.false_or, Bool.or_false, if_true, if_false, ite_true, ite_false, Nat.reduceEqDiff, exists_false, eq_self, upd_same, Bool.not_eq_true', decide_eq_false_iff_not]
  obtain ⟨c, hc, nc⟩ := abc8_at (i := s + 4 * if r = 1 then 1 else 0) (by split <;> omega) (by split <;> omega)
  exact ⟨abc8_len, c, hc, k _ _ nc B2 (f1.trans f2)⟩
theorem rd_L_part {K : PySem.W.Frag} {n : Nat} {vs : List V} {H : Hp} {Q : VK} {E : XK} (h : sp_L_part (n + 1) vs H Q E) : t_L_part K n { nx := fun _ H' => Q .non H', rt := Q } (start ["_", "_", "_", "_", "_"] vs) H := by
  obtain ⟨b, l, k, rfl, B, hk, kk⟩ := h
  show t_L_part K n _ [some (.ref b), some (.int k), none, none, none] H
  unfold t_L_part; refine st_seq ?_
  simp only [tIfS, tRet, tRetN, tAsg, gName, gSub, gCons, gNil, gTup, tDrop, tNext, tVar, tC, tOp, tUn, tTest, tB, tAnd, tOr, tNot, tAndV, tOrV, tNotV, tIf, tCons, tNil, xLst, xTup, xDic, tCB, tCall, tChain, tSl, tPart, tNoPart, rI, rI0, rU, rEq, rNe, scal, rXL, rXT, rXQ, rLenL, rLenT, rLenS, rLenQ, rInt1, rTupL, rLstL, rIsN, rNotN, rInT, rAddS, rLtS, rInS1, rNinS1, rIxS, rSlS, rStL, rCt, rSL, tApp, tPopAt, tPopL, tJoinL, tIndex, xFld, xSet, xMeth, xMake, rGetS, rGetI, rInDS, rInDI, xPutS, xPutI, xGet2S, xGet2I, xPopI, rDctD, rLstD, rCatT, HO.ins.injEq, ixN0, ixN1, ixN2, ixN3, atI0, atI1, atI2, atI3, eqV_str, eqV_int, eqV_is, eqV_si, inV_nil, inV_cons, flatV, List.all_cons, List.all_nil, wd_eq, wd_ne0, wd_ne0', List.getElem?_cons_zero, List.getElem?_cons_succ, List.set_cons_zero, List.set_cons_succ, List.cons_append, List.nil_append, List.append_nil, Nat.reduceAdd, Nat.reduceLT, Option.some.injEq, V.int.injEq, V.str.injEq, V.bl.injEq, V.ref.injEq, HO.lst.injEq, HO.tup.injEq, HO.dK.injEq, List.cons.injEq, exists_eq_left, exists_eq_left', exists_eq_right, exists_eq_right', exists_and_left, exists_and_right, exists_const, exists_eq, exists_eq', and_assoc, true_and, and_true, false_and, and_false, true_or, or_true, false_or, or_false, reduceCtorEq, not_true_eq_false, not_false_eq_true, decide_true, decide_false, decide_eq_true_eq, decide_not, Bool.not_true, Bool.not_false, Bool.false_eq_true, Bool.true_and, Bool.and_true, Bool.false_and, Bool.and_false, Bool.true_or, Bool.or_true, Bool.false_or, Bool.or_false, if_true, if_false, ite_true, ite_false, Nat.reduceEqDiff, exists_false, eq_self, upd_same, Bool.not_eq_true', decide_eq_false_iff_not]
  refine ⟨b, l, 9, rfl, B, by decide, by decide, fun r H1 r0 r1 B1 f1 => ?_⟩
  unfold t_L_part_1; refine st_seq ?_
  simp only [tIfS, tRet, tRetN, tAsg, gName, gSub, gCons, gNil, gTup, tDrop, tNext, tVar, tC, tOp, tUn, tTest, tB, tAnd, tOr, tNot, tAndV, tOrV, tNotV, tIf, tCons, tNil, xLst, xTup, xDic, tCB, tCall, tChain, tSl, tPart, tNoPart, rI, rI0, rU, rEq, rNe, scal, rXL, rXT, rXQ, rLenL, rLenT, rLenS, rLenQ, rInt1, rTupL, rLstL, rIsN, rNotN, rInT, rAddS, rLtS, rInS1, rNinS1, rIxS, rSlS, rStL, rCt, rSL, tApp, tPopAt, tPopL, tJoinL, tIndex, xFld, xSet, xMeth, xMake, rGetS, rGetI, rInDS, rInDI, xPutS, xPutI, xGet2S, xGet2I, xPopI, rDctD, rLstD, rCatT, HO.ins.injEq, ixN0, ixN1, ixN2, ixN3, atI0, atI1, atI2, atI3, eqV_str, eqV_int, eqV_is, eqV_si, inV_nil, inV_cons, flatV, List.all_cons, List.all_nil, wd_eq, wd_ne0, wd_ne0', List.getElem?_cons_zero, List.getElem?_cons_succ, List.set_cons_zero, List.set_cons_succ, List.cons_append, List.nil_append, List.append_nil, Nat.reduceAdd, Nat.reduceLT, Option.some.injEq, V.int.injEq, V.str.injEq, V.bl.injEq, V.ref.injEq, HO.lst.injEq, HO.tup.injEq, HO.dK.injEq, List.cons.injEq, exists_eq_left, exists_eq_left', exists_eq_right, exists_eq_right', exists_and_left, exists_and_right, exists_const, exists_eq, exists_eq', and_assoc, true_and, and_true, false_and, and_false, true_or, or_true, false_or, or_false, reduceCtorEq, not_true_eq_false, not_false_eq_true, decide_true, decide_false, decide_eq_true_eq, decide_not, Bool.not_true, Bool.not_false, Bool.false_eq_true, Bool.true_and, Bool.and_true, Bool.false_and, Bool.and_false, Bool.true_or, Bool.or_true, Bool.false_or, Bool.or_false, if_true, if_false, ite_true, ite_false, Nat.reduceEqDiff, exists_false, eq_self, upd_same, Bool.not_eq_true', decide_eq_false_iff_not]
  split
  · refine ⟨b, l, rfl, B1, fun x H2 nx B2 f2 => ⟨(by simp only [List.length_cons, List.length_nil]; decide), fun p H3 A => ?_⟩⟩
    exact kk (.name x) _ _ nx (by simp only [Ex.dep]; omega) (.tup A.at_ (.cons (.str _) (.cons (.str _) .nil))) (B2.keep A.fr) ((f1.trans f2).al A)
  · unfold t_L_part_2; refine st_seq ?_
    simp only [tIfS, tRet, tRetN, tAsg, gName, gSub, gCons, gNil, gTup, tDrop, tNext, tVar, tC, tOp, tUn, tTest, tB, tAnd, tOr, tNot, tAndV, tOrV, tNotV, tIf, tCons, tNil, xLst, xTup, xDic, tCB, tCall, tChain, tSl, tPart, tNoPart, rI, rI0, rU, rEq, rNe, scal, rXL, rXT, rXQ, rLenL, rLenT, rLenS, rLenQ, rInt1, rTupL, rLstL, rIsN, rNotN, rInT, rAddS, rLtS, rInS1, rNinS1, rIxS, rSlS, rStL, rCt, rSL, tApp, tPopAt, tPopL, tJoinL, tIndex, xFld, xSet, xMeth, xMake, rGetS, rGetI, rInDS, rInDI, xPutS, xPutI, xGet2S, xGet2I, xPopI, rDctD, rLstD, rCatT, HO.ins.injEq, ixN0, ixN1, ixN2, ixN3, atI0, atI1, atI2, atI3, eqV_str, eqV_int, eqV_is, eqV_si, inV_nil, inV_cons, flatV, List.all_cons, List.all_nil, wd_eq, wd_ne0, wd_ne0', List.getElem?_cons_zero, List.getElem?_cons_succ, List.set_cons_zero, List.set_cons_succ, List.cons_append, List.nil_append, List.append_nil, Nat.reduceAdd, Nat.reduceLT, Option.some.injEq, V.int.injEq, V.str.injEq, V.bl.injEq, V.ref.injEq, HO.lst.injEq, HO.tup.injEq, HO.dK.injEq, List.cons.injEq, exists_eq_left, exists_eq_left', exists_eq_right, exists_eq_right', exists_and_left, exists_and_right, exists_const, exists_eq, exists_eq', and_assoc, true_and, and_true, false_and, and_false, true_or, or_true, false_or, or_false, reduceCtorEq, not_true_eq_false, not_false_eq_true, decide_true, decide_false, decide_eq_true_eq, decide_not, Bool.not_true, Bool.not_false, Bool.false_eq_true, Bool.true_and, Bool.and_true, Bool.false_and, Bool.and_false, Bool.true_or, Bool.or_true, Bool.false_or, Bool.or_false, if_true, if_false, ite_true, ite_false, Nat.reduceEqDiff, exists_false, eq_self, upd_same, Bool.not_eq_true', decide_eq_false_iff_not]
    refine or2 (fun h6 => ?_) (fun h0 h6 => ?_)
    refine st_seq ?_
    simp only [tIfS, tRet, tRetN, tAsg, gName, gSub, gCons, gNil, gTup, tDrop, tNext, tVar, tC, tOp, tUn, tTest, tB, tAnd, tOr, tNot, tAndV, tOrV, tNotV, tIf, tCons, tNil, xLst, xTup, xDic, tCB, tCall, tChain, tSl, tPart, tNoPart, rI, rI0, rU, rEq, rNe, scal, rXL, rXT, rXQ, rLenL, rLenT, rLenS, rLenQ, rInt1, rTupL, rLstL, rIsN, rNotN, rInT, rAddS, rLtS, rInS1, rNinS1, rIxS, rSlS, rStL, rCt, rSL, tApp, tPopAt, tPopL, tJoinL, tIndex, xFld, xSet, xMeth, xMake, rGetS, rGetI, rInDS, rInDI, xPutS, xPutI, xGet2S, xGet2I, xPopI, rDctD, rLstD, rCatT, HO.ins.injEq, ixN0, ixN1, ixN2, ixN3, atI0, atI1, atI2, atI3, eqV_str, eqV_int, eqV_is, eqV_si, inV_nil, inV_cons, flatV, List.all_cons, List.all_nil, wd_eq, wd_ne0, wd_ne0', List.getElem?_cons_zero, List.getElem?_cons_succ, List.set_cons_zero, List.set_cons_succ, List.cons_append, List.nil_append, List.append_nil, Nat.reduceAdd, Nat.reduceLT, Option.some.injEq, V.int.injEq, V.str.injEq, V.bl.injEq, V.ref.injEq, HO.lst.injEq, HO.tup.injEq, HO.dK.injEq, List.cons.injEq, exists_eq_left, exists_eq_left', exists_eq_right, exists_eq_right', exists_and_left, exists_and_right, exists_const, exists_eq, exists_eq', and_assoc, true_and, and_true, false_and, and_false, true_or, or_true, false_or, or_false, reduceCtorEq, not_true_eq_false, not_false_eq_true, decide_true, decide_false, decide_eq_true_eq, decide_not, Bool.not_true, Bool.not_false, Bool.false_eq_true, Bool.true_and, Bool.and_true, Bool.false_and, Bool.and_false, Bool.true_or, Bool.or_true, Bool.false_or, Bool.or_false, if_true, if_false, ite_true, ite_false, Nat.reduceEqDiff, exists_false, eq_self, upd_same, Bool.not_eq_true', decide_eq_false_iff_not]
    refine i2 (fun h5 => ?_) fun h5 => ?_
    · refine ⟨b, l, rfl, B1, fun z H2 hz B2 f2 => ⟨(by simp only [List.length_cons, List.length_nil]; decide), fun p H3 A => ?_⟩⟩
      exact kk (.text z) _ _ hz (by simp only [Ex.dep]; omega) (.tup A.at_ (.cons (.str _) (.cons (.str _) .nil))) (B2.keep A.fr) ((f1.trans f2).al A)
    · refine ⟨b, l, 4, rfl, B1, by decide, by decide, fun x H2 x0 x1 B2 f2 => ?_⟩
      refine ⟨b, l, 10000, rfl, B2, by decide, by decide, fun y H3 y0 y1 B3 f3 => ?_⟩
      simp only [tIfS, tRet, tRetN, tAsg, gName, gSub, gCons, gNil, gTup, tDrop, tNext, tVar, tC, tOp, tUn, tTest, tB, tAnd, tOr, tNot, tAndV, tOrV, tNotV, tIf, tCons, tNil, xLst, xTup, xDic, tCB, tCall, tChain, tSl, tPart, tNoPart, rI, rI0, rU, rEq, rNe, scal, rXL, rXT, rXQ, rLenL, rLenT, rLenS, rLenQ, rInt1, rTupL, rLstL, rIsN, rNotN, rInT, rAddS, rLtS, rInS1, rNinS1, rIxS, rSlS, rStL, rCt, rSL, tApp, tPopAt, tPopL, tJoinL, tIndex, xFld, xSet, xMeth, xMake, rGetS, rGetI, rInDS, rInDI, xPutS, xPutI, xGet2S, xGet2I, xPopI, rDctD, rLstD, rCatT, HO.ins.injEq, ixN0, ixN1, ixN2, ixN3, atI0, atI1, atI2, atI3, eqV_str, eqV_int, eqV_is, eqV_si, inV_nil, inV_cons, flatV, List.all_cons, List.all_nil, wd_eq, wd_ne0, wd_ne0', List.getElem?_cons_zero, List.getElem?_cons_succ, List.set_cons_zero, List.set_cons_succ, List.cons_append, List.nil_append, List.append_nil, Nat.reduceAdd, Nat.reduceLT, Option.some.injEq, V.int.injEq, V.str.injEq, V.bl.injEq, V.ref.injEq, HO.lst.injEq, HO.tup.injEq, HO.dK.injEq, List.cons.injEq, exists_eq_left, exists_eq_left', exists_eq_right, exists_eq_right', exists_and_left, exists_and_right, exists_const, exists_eq, exists_eq', and_assoc, true_and, and_true, false_and, and_false, true_or, or_true, false_or, or_false, reduceCtorEq, not_true_eq_false, not_false_eq_true, decide_true, decide_false, decide_eq_true_eq, decide_not, Bool.not_true, Bool.not_false, Bool.false_eq_true, Bool.true_and, Bool.and_true, Bool.false_and, Bool.and_false, Bool.true_or, Bool.or_true, Bool.false_or, Bool.or_false, if_true, if_false, ite_true, ite_false, Nat.reduceEqDiff, exists_false, eq_self, upd_same, Bool.not_eq_true', decide_eq_false_iff_not]
      refine ⟨(by simp only [List.length_cons, List.length_nil]; decide), fun p H4 A => ?_⟩
      simp only [tIfS, tRet, tRetN, tAsg, gName, gSub, gCons, gNil, gTup, tDrop, tNext, tVar, tC, tOp, tUn, tTest, tB, tAnd, tOr, tNot, tAndV, tOrV, tNotV, tIf, tCons, tNil, xLst, xTup, xDic, tCB, tCall, tChain, tSl, tPart, tNoPart, rI, rI0, rU, rEq, rNe, scal, rXL, rXT, rXQ, rLenL, rLenT, rLenS, rLenQ, rInt1, rTupL, rLstL, rIsN, rNotN, rInT, rAddS, rLtS, rInS1, rNinS1, rIxS, rSlS, rStL, rCt, rSL, tApp, tPopAt, tPopL, tJoinL, tIndex, xFld, xSet, xMeth, xMake, rGetS, rGetI, rInDS, rInDI, xPutS, xPutI, xGet2S, xGet2I, xPopI, rDctD, rLstD, rCatT, HO.ins.injEq, ixN0, ixN1, ixN2, ixN3, atI0, atI1, atI2, atI3, eqV_str, eqV_int, eqV_is, eqV_si, inV_nil, inV_cons, flatV, List.all_cons, List.all_nil, wd_eq, wd_ne0, wd_ne0', List.getElem?_cons_zero, List.getElem?_cons_succ, List.set_cons_zero, List.set_cons_succ, List.cons_append, List.nil_append, List.append_nil, Nat.reduceAdd, Nat.reduceLT, Option.some.injEq, V.int.injEq, V.str.injEq, V.bl.injEq, V.ref.injEq, HO.lst.injEq, HO.tup.injEq, HO.dK.injEq, List.cons.injEq, exists_eq_left, exists_eq_left', exists_eq_right, exists_eq_right', exists_and_left, exists_and_right, exists_const, exists_eq, exists_eq', and_assoc, true_and, and_true, false_and, and_false, true_or, or_true, false_or, or_false, reduceCtorEq, not_true_eq_false, not_false_eq_true, decide_true, decide_false, decide_eq_true_eq, decide_not, Bool.not_true, Bool.not_false, Bool.false_eq_true, Bool.true_and, Bool.and_true, Bool.false_and, Bool.and_false, Bool.true_or, Bool.or_true, Bool.false_or, Bool.or_false, if_true, if_false, ite_true, ite_false, Nat.reduceEqDiff, exists_false, eq_self, upd_same, Bool.not_eq_true', decide_eq_false_iff_not, A.at_]
      have hl : ∃ m, atI [V.int x, V.int y] (if r = 4 then 1 else 0) = some (.int m) ∧ 0 ≤ m ∧ m < 10000 := by
        split
        · exact ⟨_, atI1 _ _ _, y0, y1⟩
        · exact ⟨_, atI0 _ _, x0, by omega⟩
      obtain ⟨m, em, m0, m1⟩ := hl
      simp only [tIfS, tRet, tRetN, tAsg, gName, gSub, gCons, gNil, gTup, tDrop, tNext, tVar, tC, tOp, tUn, tTest, tB, tAnd, tOr, tNot, tAndV, tOrV, tNotV, tIf, tCons, tNil, xLst, xTup, xDic, tCB, tCall, tChain, tSl, tPart, tNoPart, rI, rI0, rU, rEq, rNe, scal, rXL, rXT, rXQ, rLenL, rLenT, rLenS, rLenQ, rInt1, rTupL, rLstL, rIsN, rNotN, rInT, rAddS, rLtS, rInS1, rNinS1, rIxS, rSlS, rStL, rCt, rSL, tApp, tPopAt, tPopL, tJoinL, tIndex, xFld, xSet, xMeth, xMake, rGetS, rGetI, rInDS, rInDI, xPutS, xPutI, xGet2S, xGet2I, xPopI, rDctD, rLstD, rCatT, HO.ins.injEq, ixN0, ixN1, ixN2, ixN3, atI0, atI1, atI2, atI3, eqV_str, eqV_int, eqV_is, eqV_si, inV_nil, inV_cons, flatV, List.all_cons, List.all_nil, wd_eq, wd_ne0, wd_ne0', List.getElem?_cons_zero, List.getElem?_cons_succ, List.set_cons_zero, List.set_cons_succ, List.cons_append, List.nil_append, List.append_nil, Nat.reduceAdd, Nat.reduceLT, Option.some.injEq, V.int.injEq, V.str.injEq, V.bl.injEq, V.ref.injEq, HO.lst.injEq, HO.tup.injEq, HO.dK.injEq, List.cons.injEq, exists_eq_left, exists_eq_left', exists_eq_right, exists_eq_right', exists_and_left, exists_and_right, exists_const, exists_eq, exists_eq', and_assoc, true_and, and_true, false_and, and_false, true_or, or_true, false_or, or_false, reduceCtorEq, not_true_eq_false, not_false_eq_true, decide_true, decide_false, decide_eq_true_eq, decide_not, Bool.not_true, Bool.not_false, Bool.false_eq_true, Bool.true_and, Bool.and_true, Bool.false_and, Bool.and_false, Bool.true_or, Bool.or_true, Bool.false_or, Bool.or_false, if_true, if_false, ite_true, ite_false, Nat.reduceEqDiff, exists_false, eq_self, upd_same, Bool.not_eq_true', decide_eq_false_iff_not, em]
      refine ⟨(by simp only [List.length_cons, List.length_nil]; decide), fun q H5 A5 => ?_⟩
      exact kk (.num m) _ _ ⟨m0, m1⟩ (by simp only [Ex.dep]; omega) (.tup A5.at_ (.cons (.str _) (.cons (.int _) .nil))) ((B3.keep A.fr).keep A5.fr) ((((f1.trans f2).trans f3).al A).al A5)
    · unfold t_L_part_3; refine st_seq ?_
      simp only [tIfS, tRet, tRetN, tAsg, gName, gSub, gCons, gNil, gTup, tDrop, tNext, tVar, tC, tOp, tUn, tTest, tB, tAnd, tOr, tNot, tAndV, tOrV, tNotV, tIf, tCons, tNil, xLst, xTup, xDic, tCB, tCall, tChain, tSl, tPart, tNoPart, rI, rI0, rU, rEq, rNe, scal, rXL, rXT, rXQ, rLenL, rLenT, rLenS, rLenQ, rInt1, rTupL, rLstL, rIsN, rNotN, rInT, rAddS, rLtS, rInS1, rNinS1, rIxS, rSlS, rStL, rCt, rSL, tApp, tPopAt, tPopL, tJoinL, tIndex, xFld, xSet, xMeth, xMake, rGetS, rGetI, rInDS, rInDI, xPutS, xPutI, xGet2S, xGet2I, xPopI, rDctD, rLstD, rCatT, HO.ins.injEq, ixN0, ixN1, ixN2, ixN3, atI0, atI1, atI2, atI3, eqV_str, eqV_int, eqV_is, eqV_si, inV_nil, inV_cons, flatV, List.all_cons, List.all_nil, wd_eq, wd_ne0, wd_ne0', List.getElem?_cons_zero, List.getElem?_cons_succ, List.set_cons_zero, List.set_cons_succ, List.cons_append, List.nil_append, List.append_nil, Nat.reduceAdd, Nat.reduceLT, Option.some.injEq, V.int.injEq, V.str.injEq, V.bl.injEq, V.ref.injEq, HO.lst.injEq, HO.tup.injEq, HO.dK.injEq, List.cons.injEq, exists_eq_left, exists_eq_left', exists_eq_right, exists_eq_right', exists_and_left, exists_and_right, exists_const, exists_eq, exists_eq', and_assoc, true_and, and_true, false_and, and_false, true_or, or_true, false_or, or_false, reduceCtorEq, not_true_eq_false, not_false_eq_true, decide_true, decide_false, decide_eq_true_eq, decide_not, Bool.not_true, Bool.not_false, Bool.false_eq_true, Bool.true_and, Bool.and_true, Bool.false_and, Bool.and_false, Bool.true_or, Bool.or_true, Bool.false_or, Bool.or_false, if_true, if_false, ite_true, ite_false, Nat.reduceEqDiff, exists_false, eq_self, upd_same, Bool.not_eq_true', decide_eq_false_iff_not]
      refine ⟨(by simp only [List.length_cons, List.length_nil]; decide), fun p H2 A => ?_⟩
      refine ⟨b, l, 4, rfl, B1.keep A.fr, by decide, by decide, fun z H3 z0 z1 B3 f3 => ?_⟩
      have hp : H3 p = _ := f3.keep _ _ A.at_ (B1.off A.new)
      obtain ⟨s, es⟩ := sg4 z0 z1
      simp only [tIfS, tRet, tRetN, tAsg, gName, gSub, gCons, gNil, gTup, tDrop, tNext, tVar, tC, tOp, tUn, tTest, tB, tAnd, tOr, tNot, tAndV, tOrV, tNotV, tIf, tCons, tNil, xLst, xTup, xDic, tCB, tCall, tChain, tSl, tPart, tNoPart, rI, rI0, rU, rEq, rNe, scal, rXL, rXT, rXQ, rLenL, rLenT, rLenS, rLenQ, rInt1, rTupL, rLstL, rIsN, rNotN, rInT, rAddS, rLtS, rInS1, rNinS1, rIxS, rSlS, rStL, rCt, rSL, tApp, tPopAt, tPopL, tJoinL, tIndex, xFld, xSet, xMeth, xMake, rGetS, rGetI, rInDS, rInDI, xPutS, xPutI, xGet2S, xGet2I, xPopI, rDctD, rLstD, rCatT, HO.ins.injEq, ixN0, ixN1, ixN2, ixN3, atI0, atI1, atI2, atI3, eqV_str, eqV_int, eqV_is, eqV_si, inV_nil, inV_cons, flatV, List.all_cons, List.all_nil, wd_eq, wd_ne0, wd_ne0', List.getElem?_cons_zero, List.getElem?_cons_succ, List.set_cons_zero, List.set_cons_succ, List.cons_append, List.nil_append, List.append_nil, Nat.reduceAdd, Nat.reduceLT, Option.some.injEq, V.int.injEq, V.str.injEq, V.bl.injEq, V.ref.injEq, HO.lst.injEq, HO.tup.injEq, HO.dK.injEq, List.cons.injEq, exists_eq_left, exists_eq_left', exists_eq_right, exists_eq_right', exists_and_left, exists_and_right, exists_const, exists_eq, exists_eq', and_assoc, true_and, and_true, false_and, and_false, true_or, or_true, false_or, or_false, reduceCtorEq, not_true_eq_false, not_false_eq_true, decide_true, decide_false, decide_eq_true_eq, decide_not, Bool.not_true, Bool.not_false, Bool.false_eq_true, Bool.true_and, Bool.and_true, Bool.false_and, Bool.and_false, Bool.true_or, Bool.or_true, Bool.false_or, Bool.or_false, if_true, if_false, ite_true, ite_false, Nat.reduceEqDiff, exists_false, eq_self, upd_same, Bool.not_eq_true', decide_eq_false_iff_not, hp, es]
      unfold t_L_part_4; refine st_seq ?_
      simp only [tIfS, tRet, tRetN, tAsg, gName, gSub, gCons, gNil, gTup, tDrop, tNext, tVar, tC, tOp, tUn, tTest, tB, tAnd, tOr, tNot, tAndV, tOrV, tNotV, tIf, tCons, tNil, xLst, xTup, xDic, tCB, tCall, tChain, tSl, tPart, tNoPart, rI, rI0, rU, rEq, rNe, scal, rXL, rXT, rXQ, rLenL, rLenT, rLenS, rLenQ, rInt1, rTupL, rLstL, rIsN, rNotN, rInT, rAddS, rLtS, rInS1, rNinS1, rIxS, rSlS, rStL, rCt, rSL, tApp, tPopAt, tPopL, tJoinL, tIndex, xFld, xSet, xMeth, xMake, rGetS, rGetI, rInDS, rInDI, xPutS, xPutI, xGet2S, xGet2I, xPopI, rDctD, rLstD, rCatT, HO.ins.injEq, ixN0, ixN1, ixN2, ixN3, atI0, atI1, atI2, atI3, eqV_str, eqV_int, eqV_is, eqV_si, inV_nil, inV_cons, flatV, List.all_cons, List.all_nil, wd_eq, wd_ne0, wd_ne0', List.getElem?_cons_zero, List.getElem?_cons_succ, List.set_cons_zero, List.set_cons_succ, List.cons_append, List.nil_append, List.append_nil, Nat.reduceAdd, Nat.reduceLT, Option.some.injEq, V.int.injEq, V.str.injEq, V.bl.injEq, V.ref.injEq, HO.lst.injEq, HO.tup.injEq, HO.dK.injEq, List.cons.injEq, exists_eq_left, exists_eq_left', exists_eq_right, exists_eq_right', exists_and_left, exists_and_right, exists_const, exists_eq, exists_eq', and_assoc, true_and, and_true, false_and, and_false, true_or, or_true, false_or, or_false, reduceCtorEq, not_true_eq_false, not_false_eq_true, decide_true, decide_false, decide_eq_true_eq, decide_not, Bool.not_true, Bool.not_false, Bool.false_eq_true, Bool.true_and, Bool.and_true, Bool.false_and, Bool.and_false, Bool.true_or, Bool.or_true, Bool.false_or, Bool.or_false, if_true, if_false, ite_true, ite_false, Nat.reduceEqDiff, exists_false, eq_self, upd_same, Bool.not_eq_true', decide_eq_false_iff_not]
      have ek : ((k - 1 : Nat) : Int) = (k : Int) - 1 := by omega
      refine ⟨b, l, k - 1, by rw [ek], B3, by omega, fun e1 v1 H4 ok1 d1 t1 B4 f4 => ?_⟩
      simp only [tIfS, tRet, tRetN, tAsg, gName, gSub, gCons, gNil, gTup, tDrop, tNext, tVar, tC, tOp, tUn, tTest, tB, tAnd, tOr, tNot, tAndV, tOrV, tNotV, tIf, tCons, tNil, xLst, xTup, xDic, tCB, tCall, tChain, tSl, tPart, tNoPart, rI, rI0, rU, rEq, rNe, scal, rXL, rXT, rXQ, rLenL, rLenT, rLenS, rLenQ, rInt1, rTupL, rLstL, rIsN, rNotN, rInT, rAddS, rLtS, rInS1, rNinS1, rIxS, rSlS, rStL, rCt, rSL, tApp, tPopAt, tPopL, tJoinL, tIndex, xFld, xSet, xMeth, xMake, rGetS, rGetI, rInDS, rInDI, xPutS, xPutI, xGet2S, xGet2I, xPopI, rDctD, rLstD, rCatT, HO.ins.injEq, ixN0, ixN1, ixN2, ixN3, atI0, atI1, atI2, atI3, eqV_str, eqV_int, eqV_is, eqV_si, inV_nil, inV_cons, flatV, List.all_cons, List.all_nil, wd_eq, wd_ne0, wd_ne0', List.getElem?_cons_zero, List.getElem?_cons_succ, List.set_cons_zero, List.set_cons_succ, List.cons_append, List.nil_append, List.append_nil, Nat.reduceAdd, Nat.reduceLT, Option.some.injEq, V.int.injEq, V.str.injEq, V.bl.injEq, V.ref.injEq, HO.lst.injEq, HO.tup.injEq, HO.dK.injEq, List.cons.injEq, exists_eq_left, exists_eq_left', exists_eq_right, exists_eq_right', exists_and_left, exists_and_right, exists_const, exists_eq, exists_eq', and_assoc, true_and, and_true, false_and, and_false, true_or, or_true, false_or, or_false, reduceCtorEq, not_true_eq_false, not_false_eq_true, decide_true, decide_false, decide_eq_true_eq, decide_not, Bool.not_true, Bool.not_false, Bool.false_eq_true, Bool.true_and, Bool.and_true, Bool.false_and, Bool.and_false, Bool.true_or, Bool.or_true, Bool.false_or, Bool.or_false, if_true, if_false, ite_true, ite_false, Nat.reduceEqDiff, exists_false, eq_self, upd_same, Bool.not_eq_true', decide_eq_false_iff_not]
      refine ⟨b, l, k - 1, by rw [ek], B4, by omega, fun e2 v2 H5 ok2 d2 t2 B5 f5 => ?_⟩
      refine ⟨(by simp only [List.length_cons, List.length_nil]; decide), fun q H6 A6 => ?_⟩
      exact kk (.op s e1 e2) _ _ ⟨ok1, ok2⟩ (by simp only [Ex.dep]; omega) (.tup A6.at_ (.cons (.str _) (.cons ((t1.tups f5.tu).tups A6.tu) (.cons (t2.tups A6.tu) .nil)))) (B5.keep A6.fr) (((((f1.al A).trans f3).trans f4).trans f5).al A6)
theorem cntL_snoc (l : List Sm) (s : Sm) : cntL (l ++ [s]) = cntL l + s.cnt := by rw [cntL_append]; simp [cntL]
theorem dpL_snoc : ∀ (l : List Sm) (s : Sm), dpL (l ++ [s]) = max (dpL l) (1 + s.dp)
  | [], s => by have := s.dp_pos; simp only [List.nil_append, dpL]; omega
  | a :: r, s => by rw [List.cons_append]; simp only [dpL, dpL_snoc r s]; omega
theorem okL_snoc {m : Nat} {l : List Sm} {s : Sm} (h : okL m l) (h' : s.ok m) : okL m (l ++ [s]) := okL_append h ⟨h', trivial⟩
theorem rowC_mono {f k m m' : Nat} (h : m ≤ m') : rowC f k m ≤ rowC f k m' := by
  unfold rowC
  split
  · exact Nat.le_refl _
  · exact Nat.mul_le_mul_right _ h
/-- the row's statements, one by one -/
theorem row_lc {K : PySem.W.Frag} {n : Nat} {b l : Addr} {k m m0 : Nat} {H : Hp} {Q : VK} {σ3 : Option V} (B : BoxAt H b l) (hk : 2 * k + 1 < n + 1) (hm : m ≤ 8) (hm0 : m * stC k ≤ rowC (stC k) k m0)
    (kk : ∀ (p : List Sm) v H', okL 5 p → dpL p ≤ 2 * k + 2 → cntL p ≤ rowC (stC k) k m0 → Tp H' (rowD p) v → BoxAt H' b l → Fr [b, l] H H' → Q v H') :
    t_L_row_1 K n { nx := fun _ H' => Q .non H', rt := Q } [some (.ref b), some (.int k), some (.int m), σ3] H := by
  unfold t_L_row_1
  simp only [tIfS, tRet, tRetN, tAsg, gName, gSub, gCons, gNil, gTup, tDrop, tNext, tVar, tC, tOp, tUn, tTest, tB, tAnd, tOr, tNot, tAndV, tOrV, tNotV, tIf, tCons, tNil, xLst, xTup, xDic, tCB, tCall, tChain, tSl, tPart, tNoPart, rI, rI0, rU, rEq, rNe, scal, rXL, rXT, rXQ, rLenL, rLenT, rLenS, rLenQ, rInt1, rTupL, rLstL, rIsN, rNotN, rInT, rAddS, rLtS, rInS1, rNinS1, rIxS, rSlS, rStL, rCt, rSL, tApp, tPopAt, tPopL, tJoinL, tIndex, xFld, xSet, xMeth, xMake, rGetS, rGetI, rInDS, rInDI, xPutS, xPutI, xGet2S, xGet2I, xPopI, rDctD, rLstD, rCatT, HO.ins.injEq, ixN0, ixN1, ixN2, ixN3, atI0, atI1, atI2, atI3, eqV_str, eqV_int, eqV_is, eqV_si, inV_nil, inV_cons, flatV, List.all_cons, List.all_nil, wd_eq, wd_ne0, wd_ne0', List.getElem?_cons_zero, List.getElem?_cons_succ, List.set_cons_zero, List.set_cons_succ, List.cons_append, List.nil_append, List.append_nil, Nat.reduceAdd, Nat.reduceLT, Option.some.injEq, V.int.injEq, V.str.injEq, V.bl.injEq, V.ref.injEq, HO.lst.injEq, HO.tup.injEq, HO.dK.injEq, List.cons.injEq, exists_eq_left, exists_eq_left', exists_eq_right, exists_eq_right', exists_and_left, exists_and_right, exists_const, exists_eq, exists_eq', and_assoc, true_and, and_true, false_and, and_false, true_or, or_true, false_or, or_false, reduceCtorEq, not_true_eq_false, not_false_eq_true, decide_true, decide_false, decide_eq_true_eq, decide_not, Bool.not_true, Bool.not_false, Bool.false_eq_true, Bool.true_and, Bool.and_true, Bool.false_and, Bool.and_false, Bool.true_or, Bool.or_true, Bool.false_or, Bool.or_false, if_true, if_false, ite_true, ite_false, Nat.reduceEqDiff, exists_false, eq_self, upd_same, Bool.not_eq_true', decide_eq_false_iff_not]
  refine lcR (n := (m : Int)) (fun R h => ⟨_, rfl, h⟩) (by omega) (by omega) fun L hL => ?_
  refine ⟨fun i Hc => ∃ (ss : List Sm) (xs : List V), ss.length = i ∧ Hc L = some (.lst xs) ∧ TpL Hc (ss.map Sm.d) xs ∧ okL 5 ss ∧ dpL ss ≤ 2 * k + 2 ∧ cntL ss ≤ i * stC k ∧ BoxAt Hc b l ∧ Fr [b, l] H Hc, ?_, ?_, ?_⟩
  · exact ⟨[], [], rfl, upd_same, .nil, trivial, by simp only [dpL]; omega, by simp [cntL], B.keep (Al.of hL).fr, (Al.of hL).fr⟩
  · rintro i Hc hi ⟨ss, xs, e1, h1, h2, h3, h4, h5, B1, f1⟩
    show LcTurn _ _ _ _ _ _ _ _ _
    unfold LcTurn
    simp only [tIfS, tRet, tRetN, tAsg, gName, gSub, gCons, gNil, gTup, tDrop, tNext, tVar, tC, tOp, tUn, tTest, tB, tAnd, tOr, tNot, tAndV, tOrV, tNotV, tIf, tCons, tNil, xLst, xTup, xDic, tCB, tCall, tChain, tSl, tPart, tNoPart, rI, rI0, rU, rEq, rNe, scal, rXL, rXT, rXQ, rLenL, rLenT, rLenS, rLenQ, rInt1, rTupL, rLstL, rIsN, rNotN, rInT, rAddS, rLtS, rInS1, rNinS1, rIxS, rSlS, rStL, rCt, rSL, tApp, tPopAt, tPopL, tJoinL, tIndex, xFld, xSet, xMeth, xMake, rGetS, rGetI, rInDS, rInDI, xPutS, xPutI, xGet2S, xGet2I, xPopI, rDctD, rLstD, rCatT, HO.ins.injEq, ixN0, ixN1, ixN2, ixN3, atI0, atI1, atI2, atI3, eqV_str, eqV_int, eqV_is, eqV_si, inV_nil, inV_cons, flatV, List.all_cons, List.all_nil, wd_eq, wd_ne0, wd_ne0', List.getElem?_cons_zero, List.getElem?_cons_succ, List.set_cons_zero, List.set_cons_succ, List.cons_append, List.nil_append, List.append_nil, Nat.reduceAdd, Nat.reduceLT, Option.some.injEq, V.int.injEq, V.str.injEq, V.bl.injEq, V.ref.injEq, HO.lst.injEq, HO.tup.injEq, HO.dK.injEq, List.cons.injEq, exists_eq_left, exists_eq_left', exists_eq_right, exists_eq_right', exists_and_left, exists_and_right, exists_const, exists_eq, exists_eq', and_assoc, true_and, and_true, false_and, and_false, true_or, or_true, false_or, or_false, reduceCtorEq, not_true_eq_false, not_false_eq_true, decide_true, decide_false, decide_eq_true_eq, decide_not, Bool.not_true, Bool.not_false, Bool.false_eq_true, Bool.true_and, Bool.and_true, Bool.false_and, Bool.and_false, Bool.true_or, Bool.or_true, Bool.false_or, Bool.or_false, if_true, if_false, ite_true, ite_false, Nat.reduceEqDiff, exists_false, eq_self, upd_same, Bool.not_eq_true', decide_eq_false_iff_not, wipe, tYes]
    refine ⟨b, l, k, rfl, B1, by omega, fun s v H2 hs ds cs ts B2 f2 => ?_⟩
    have oL := B.off hL
    have hL2 : H2 L = _ := f2.keep _ _ h1 oL
    have M := Mu.of (o := .lst (xs ++ [v])) hL2 fun _ z => by cases z
    refine ⟨xs, hL2, ?_, ss ++ [s], by simp [e1], ?_, okL_snoc h3 hs, by rw [dpL_snoc]; omega, ?_, B2.mu M oL, (f1.trans f2).muN M hL⟩
    · rw [h2.length, List.length_map, e1]; exact Nat.lt_of_lt_of_le (m := 9) (by omega) (by decide)
    · rw [List.map_append]; exact (((h2.tups f2.tu).snoc ts).tups M.tu)
    · rw [cntL_snoc, Nat.succ_mul]; omega
  · rintro Hc ⟨ss, xs, e1, h1, h2, h3, h4, h5, B1, f1⟩
    simp only [tIfS, tRet, tRetN, tAsg, gName, gSub, gCons, gNil, gTup, tDrop, tNext, tVar, tC, tOp, tUn, tTest, tB, tAnd, tOr, tNot, tAndV, tOrV, tNotV, tIf, tCons, tNil, xLst, xTup, xDic, tCB, tCall, tChain, tSl, tPart, tNoPart, rI, rI0, rU, rEq, rNe, scal, rXL, rXT, rXQ, rLenL, rLenT, rLenS, rLenQ, rInt1, rTupL, rLstL, rIsN, rNotN, rInT, rAddS, rLtS, rInS1, rNinS1, rIxS, rSlS, rStL, rCt, rSL, tApp, tPopAt, tPopL, tJoinL, tIndex, xFld, xSet, xMeth, xMake, rGetS, rGetI, rInDS, rInDI, xPutS, xPutI, xGet2S, xGet2I, xPopI, rDctD, rLstD, rCatT, HO.ins.injEq, ixN0, ixN1, ixN2, ixN3, atI0, atI1, atI2, atI3, eqV_str, eqV_int, eqV_is, eqV_si, inV_nil, inV_cons, flatV, List.all_cons, List.all_nil, wd_eq, wd_ne0, wd_ne0', List.getElem?_cons_zero, List.getElem?_cons_succ, List.set_cons_zero, List.set_cons_succ, List.cons_append, List.nil_append, List.append_nil, Nat.reduceAdd, Nat.reduceLT, Option.some.injEq, V.int.injEq, V.str.injEq, V.bl.injEq, V.ref.injEq, HO.lst.injEq, HO.tup.injEq, HO.dK.injEq, List.cons.injEq, exists_eq_left, exists_eq_left', exists_eq_right, exists_eq_right', exists_and_left, exists_and_right, exists_const, exists_eq, exists_eq', and_assoc, true_and, and_true, false_and, and_false, true_or, or_true, false_or, or_false, reduceCtorEq, not_true_eq_false, not_false_eq_true, decide_true, decide_false, decide_eq_true_eq, decide_not, Bool.not_true, Bool.not_false, Bool.false_eq_true, Bool.true_and, Bool.and_true, Bool.false_and, Bool.and_false, Bool.true_or, Bool.or_true, Bool.false_or, Bool.or_false, if_true, if_false, ite_true, ite_false, Nat.reduceEqDiff, exists_false, eq_self, upd_same, Bool.not_eq_true', decide_eq_false_iff_not, h1]
    intro p H2 A2
    refine ⟨(by simp only [List.length_cons, List.length_nil]; decide), fun q H3 A3 => ?_⟩
    refine kk ss _ _ h3 h4 (Nat.le_trans h5 (by simpa using hm0)) ?_ ((B1.keep A2.fr).keep A3.fr) ((f1.al A2).al A3)
    refine .tup A3.at_ (.cons (.str _) (.cons (.tup (A3.k A2.at_) ?_) .nil))
    rw [dL_map]
    exact (h2.tups A2.tu).tups A3.tu
theorem rd_L_row {K : PySem.W.Frag} {n : Nat} {vs : List V} {H : Hp} {Q : VK} {E : XK} (h : sp_L_row (n + 1) vs H Q E) : t_L_row K n { nx := fun _ H' => Q .non H', rt := Q } (start ["_", "_", "_", "_"] vs) H := by
  obtain ⟨b, l, k, m, rfl, B, hk, hm, kk⟩ := h
  show t_L_row K n _ [some (.ref b), some (.int k), some (.int m), none] H
  unfold t_L_row; refine st_seq ?_
  simp only [tIfS, tRet, tRetN, tAsg, gName, gSub, gCons, gNil, gTup, tDrop, tNext, tVar, tC, tOp, tUn, tTest, tB, tAnd, tOr, tNot, tAndV, tOrV, tNotV, tIf, tCons, tNil, xLst, xTup, xDic, tCB, tCall, tChain, tSl, tPart, tNoPart, rI, rI0, rU, rEq, rNe, scal, rXL, rXT, rXQ, rLenL, rLenT, rLenS, rLenQ, rInt1, rTupL, rLstL, rIsN, rNotN, rInT, rAddS, rLtS, rInS1, rNinS1, rIxS, rSlS, rStL, rCt, rSL, tApp, tPopAt, tPopL, tJoinL, tIndex, xFld, xSet, xMeth, xMake, rGetS, rGetI, rInDS, rInDI, xPutS, xPutI, xGet2S, xGet2I, xPopI, rDctD, rLstD, rCatT, HO.ins.injEq, ixN0, ixN1, ixN2, ixN3, atI0, atI1, atI2, atI3, eqV_str, eqV_int, eqV_is, eqV_si, inV_nil, inV_cons, flatV, List.all_cons, List.all_nil, wd_eq, wd_ne0, wd_ne0', List.getElem?_cons_zero, List.getElem?_cons_succ, List.set_cons_zero, List.set_cons_succ, List.cons_append, List.nil_append, List.append_nil, Nat.reduceAdd, Nat.reduceLT, Option.some.injEq, V.int.injEq, V.str.injEq, V.bl.injEq, V.ref.injEq, HO.lst.injEq, HO.tup.injEq, HO.dK.injEq, List.cons.injEq, exists_eq_left, exists_eq_left', exists_eq_right, exists_eq_right', exists_and_left, exists_and_right, exists_const, exists_eq, exists_eq', and_assoc, true_and, and_true, false_and, and_false, true_or, or_true, false_or, or_false, reduceCtorEq, not_true_eq_false, not_false_eq_true, decide_true, decide_false, decide_eq_true_eq, decide_not, Bool.not_true, Bool.not_false, Bool.false_eq_true, Bool.true_and, Bool.and_true, Bool.false_and, Bool.and_false, Bool.true_or, Bool.or_true, Bool.false_or, Bool.or_false, if_true, if_false, ite_true, ite_false, Nat.reduceEqDiff, exists_false, eq_self, upd_same, Bool.not_eq_true', decide_eq_false_iff_not]
  refine i2 (fun h2 => ?_) fun h2 => ?_
  · refine ⟨b, l, 8, rfl, B, by decide, by decide, fun r H1 r0 r1 B1 f1 => ?_⟩
    simp only [tIfS, tRet, tRetN, tAsg, gName, gSub, gCons, gNil, gTup, tDrop, tNext, tVar, tC, tOp, tUn, tTest, tB, tAnd, tOr, tNot, tAndV, tOrV, tNotV, tIf, tCons, tNil, xLst, xTup, xDic, tCB, tCall, tChain, tSl, tPart, tNoPart, rI, rI0, rU, rEq, rNe, scal, rXL, rXT, rXQ, rLenL, rLenT, rLenS, rLenQ, rInt1, rTupL, rLstL, rIsN, rNotN, rInT, rAddS, rLtS, rInS1, rNinS1, rIxS, rSlS, rStL, rCt, rSL, tApp, tPopAt, tPopL, tJoinL, tIndex, xFld, xSet, xMeth, xMake, rGetS, rGetI, rInDS, rInDI, xPutS, xPutI, xGet2S, xGet2I, xPopI, rDctD, rLstD, rCatT, HO.ins.injEq, ixN0, ixN1, ixN2, ixN3, atI0, atI1, atI2, atI3, eqV_str, eqV_int, eqV_is, eqV_si, inV_nil, inV_cons, flatV, List.all_cons, List.all_nil, wd_eq, wd_ne0, wd_ne0', List.getElem?_cons_zero, List.getElem?_cons_succ, List.set_cons_zero, List.set_cons_succ, List.cons_append, List.nil_append, List.append_nil, Nat.reduceAdd, Nat.reduceLT, Option.some.injEq, V.int.injEq, V.str.injEq, V.bl.injEq, V.ref.injEq, HO.lst.injEq, HO.tup.injEq, HO.dK.injEq, List.cons.injEq, exists_eq_left, exists_eq_left', exists_eq_right, exists_eq_right', exists_and_left, exists_and_right, exists_const, exists_eq, exists_eq', and_assoc, true_and, and_true, false_and, and_false, true_or, or_true, false_or, or_false, reduceCtorEq, not_true_eq_false, not_false_eq_true, decide_true, decide_false, decide_eq_true_eq, decide_not, Bool.not_true, Bool.not_false, Bool.false_eq_true, Bool.true_and, Bool.and_true, Bool.false_and, Bool.and_false, Bool.true_or, Bool.or_true, Bool.false_or, Bool.or_false, if_true, if_false, ite_true, ite_false, Nat.reduceEqDiff, exists_false, eq_self, upd_same, Bool.not_eq_true', decide_eq_false_iff_not]
    have h8 : ∀ m' : Nat, m' ≤ 8 → m' * stC k ≤ rowC (stC k) k m := fun m' h => by
      unfold rowC
      rw [if_pos (by omega)]
      exact Nat.mul_le_mul_right _ h
    refine i2 (fun h1 => ?_) fun h1 => ?_
    · refine ⟨b, l, 9, rfl, B1, by decide, by decide, fun s H2 s0 s1 B2 f2 => ?_⟩
      obtain ⟨m', rfl⟩ : ∃ m' : Nat, s = m' := ⟨s.toNat, by omega⟩
      exact row_lc B2 hk (by omega) (h8 m' (by omega)) fun p v H' o d ct t B' f' => kk p v H' o d ct t B' ((f1.trans f2).trans f')
    · exact row_lc B1 hk hm (h8 m hm) fun p v H' o d ct t B' f' => kk p v H' o d ct t B' (f1.trans f')
  · refine row_lc B hk hm ?_ kk
    unfold rowC
    rw [if_neg (by omega)]
    exact Nat.le_refl _
theorem rd_L_statement {K : PySem.W.Frag} {n : Nat} {vs : List V} {H : Hp} {Q : VK} {E : XK} (h : sp_L_statement (n + 1) vs H Q E) : t_L_statement K n { nx := fun _ H' => Q .non H', rt := Q } (start ["_", "_", "_", "_", "_", "_"] vs) H := by
  obtain ⟨b, l, k, rfl, B, hk, kk⟩ := h
  show t_L_statement K n _ [some (.ref b), some (.int k), none, none, none, none] H
  unfold t_L_statement; refine st_seq ?_
  simp only [tIfS, tRet, tRetN, tAsg, gName, gSub, gCons, gNil, gTup, tDrop, tNext, tVar, tC, tOp, tUn, tTest, tB, tAnd, tOr, tNot, tAndV, tOrV, tNotV, tIf, tCons, tNil, xLst, xTup, xDic, tCB, tCall, tChain, tSl, tPart, tNoPart, rI, rI0, rU, rEq, rNe, scal, rXL, rXT, rXQ, rLenL, rLenT, rLenS, rLenQ, rInt1, rTupL, rLstL, rIsN, rNotN, rInT, rAddS, rLtS, rInS1, rNinS1, rIxS, rSlS, rStL, rCt, rSL, tApp, tPopAt, tPopL, tJoinL, tIndex, xFld, xSet, xMeth, xMake, rGetS, rGetI, rInDS, rInDI, xPutS, xPutI, xGet2S, xGet2I, xPopI, rDctD, rLstD, rCatT, HO.ins.injEq, ixN0, ixN1, ixN2, ixN3, atI0, atI1, atI2, atI3, eqV_str, eqV_int, eqV_is, eqV_si, inV_nil, inV_cons, flatV, List.all_cons, List.all_nil, wd_eq, wd_ne0, wd_ne0', List.getElem?_cons_zero, List.getElem?_cons_succ, List.set_cons_zero, List.set_cons_succ, List.cons_append, List.nil_append, List.append_nil, Nat.reduceAdd, Nat.reduceLT, Option.some.injEq, V.int.injEq, V.str.injEq, V.bl.injEq, V.ref.injEq, HO.lst.injEq, HO.tup.injEq, HO.dK.injEq, List.cons.injEq, exists_eq_left, exists_eq_left', exists_eq_right, exists_eq_right', exists_and_left, exists_and_right, exists_const, exists_eq, exists_eq', and_assoc, true_and, and_true, false_and, and_false, true_or, or_true, false_or, or_false, reduceCtorEq, not_true_eq_false, not_false_eq_true, decide_true, decide_false, decide_eq_true_eq, decide_not, Bool.not_true, Bool.not_false, Bool.false_eq_true, Bool.true_and, Bool.and_true, Bool.false_and, Bool.and_false, Bool.true_or, Bool.or_true, Bool.false_or, Bool.or_false, if_true, if_false, ite_true, ite_false, Nat.reduceEqDiff, exists_false, eq_self, upd_same, Bool.not_eq_true', decide_eq_false_iff_not]
  refine ⟨b, l, 10, rfl, B, by decide, by decide, fun r H1 r0 r1 B1 f1 => ?_⟩
  unfold t_L_statement_1; refine st_seq ?_
  simp only [tIfS, tRet, tRetN, tAsg, gName, gSub, gCons, gNil, gTup, tDrop, tNext, tVar, tC, tOp, tUn, tTest, tB, tAnd, tOr, tNot, tAndV, tOrV, tNotV, tIf, tCons, tNil, xLst, xTup, xDic, tCB, tCall, tChain, tSl, tPart, tNoPart, rI, rI0, rU, rEq, rNe, scal, rXL, rXT, rXQ, rLenL, rLenT, rLenS, rLenQ, rInt1, rTupL, rLstL, rIsN, rNotN, rInT, rAddS, rLtS, rInS1, rNinS1, rIxS, rSlS, rStL, rCt, rSL, tApp, tPopAt, tPopL, tJoinL, tIndex, xFld, xSet, xMeth, xMake, rGetS, rGetI, rInDS, rInDI, xPutS, xPutI, xGet2S, xGet2I, xPopI, rDctD, rLstD, rCatT, HO.ins.injEq, ixN0, ixN1, ixN2, ixN3, atI0, atI1, atI2, atI3, eqV_str, eqV_int, eqV_is, eqV_si, inV_nil, inV_cons, flatV, List.all_cons, List.all_nil, wd_eq, wd_ne0, wd_ne0', List.getElem?_cons_zero, List.getElem?_cons_succ, List.set_cons_zero, List.set_cons_succ, List.cons_append, List.nil_append, List.append_nil, Nat.reduceAdd, Nat.reduceLT, Option.some.injEq, V.int.injEq, V.str.injEq, V.bl.injEq, V.ref.injEq, HO.lst.injEq, HO.tup.injEq, HO.dK.injEq, List.cons.injEq, exists_eq_left, exists_eq_left', exists_eq_right, exists_eq_right', exists_and_left, exists_and_right, exists_const, exists_eq, exists_eq', and_assoc, true_and, and_true, false_and, and_false, true_or, or_true, false_or, or_false, reduceCtorEq, not_true_eq_false, not_false_eq_true, decide_true, decide_false, decide_eq_true_eq, decide_not, Bool.not_true, Bool.not_false, Bool.false_eq_true, Bool.true_and, Bool.and_true, Bool.false_and, Bool.and_false, Bool.true_or, Bool.or_true, Bool.false_or, Bool.or_false, if_true, if_false, ite_true, ite_false, Nat.reduceEqDiff, exists_false, eq_self, upd_same, Bool.not_eq_true', decide_eq_false_iff_not]
  refine ⟨(by simp only [List.length_cons, List.length_nil]; decide), fun p H2 A2 => ?_⟩
  refine ⟨b, l, 8, rfl, B1.keep A2.fr, by decide, by decide, fun u H3 u0 u1 B3 f3 => ?_⟩
  have hp : H3 p = _ := f3.keep _ _ A2.at_ (B1.off A2.new)
  have hl : ∃ j : Nat, atI [V.int 2, V.int 4] (if u = 1 then 1 else 0) = some (.int j) ∧ j ≤ 4 := by
    split
    · exact ⟨4, atI1 _ _ _, by decide⟩
    · exact ⟨2, atI0 _ _, by decide⟩
  obtain ⟨j, ej, hj⟩ := hl
  simp only [tIfS, tRet, tRetN, tAsg, gName, gSub, gCons, gNil, gTup, tDrop, tNext, tVar, tC, tOp, tUn, tTest, tB, tAnd, tOr, tNot, tAndV, tOrV, tNotV, tIf, tCons, tNil, xLst, xTup, xDic, tCB, tCall, tChain, tSl, tPart, tNoPart, rI, rI0, rU, rEq, rNe, scal, rXL, rXT, rXQ, rLenL, rLenT, rLenS, rLenQ, rInt1, rTupL, rLstL, rIsN, rNotN, rInT, rAddS, rLtS, rInS1, rNinS1, rIxS, rSlS, rStL, rCt, rSL, tApp, tPopAt, tPopL, tJoinL, tIndex, xFld, xSet, xMeth, xMake, rGetS, rGetI, rInDS, rInDI, xPutS, xPutI, xGet2S, xGet2I, xPopI, rDctD, rLstD, rCatT, HO.ins.injEq, ixN0, ixN1, ixN2, ixN3, atI0, atI1, atI2, atI3, eqV_str, eqV_int, eqV_is, eqV_si, inV_nil, inV_cons, flatV, List.all_cons, List.all_nil, wd_eq, wd_ne0, wd_ne0', List.getElem?_cons_zero, List.getElem?_cons_succ, List.set_cons_zero, List.set_cons_succ, List.cons_append, List.nil_append, List.append_nil, Nat.reduceAdd, Nat.reduceLT, Option.some.injEq, V.int.injEq, V.str.injEq, V.bl.injEq, V.ref.injEq, HO.lst.injEq, HO.tup.injEq, HO.dK.injEq, List.cons.injEq, exists_eq_left, exists_eq_left', exists_eq_right, exists_eq_right', exists_and_left, exists_and_right, exists_const, exists_eq, exists_eq', and_assoc, true_and, and_true, false_and, and_false, true_or, or_true, false_or, or_false, reduceCtorEq, not_true_eq_false, not_false_eq_true, decide_true, decide_false, decide_eq_true_eq, decide_not, Bool.not_true, Bool.not_false, Bool.false_eq_true, Bool.true_and, Bool.and_true, Bool.false_and, Bool.and_false, Bool.true_or, Bool.or_true, Bool.false_or, Bool.or_false, if_true, if_false, ite_true, ite_false, Nat.reduceEqDiff, exists_false, eq_self, upd_same, Bool.not_eq_true', decide_eq_false_iff_not, hp, ej]
  have F3 : Fr [b, l] H H3 := (f1.al A2).trans f3
  unfold t_L_statement_2; refine st_seq ?_
  simp only [tIfS, tRet, tRetN, tAsg, gName, gSub, gCons, gNil, gTup, tDrop, tNext, tVar, tC, tOp, tUn, tTest, tB, tAnd, tOr, tNot, tAndV, tOrV, tNotV, tIf, tCons, tNil, xLst, xTup, xDic, tCB, tCall, tChain, tSl, tPart, tNoPart, rI, rI0, rU, rEq, rNe, scal, rXL, rXT, rXQ, rLenL, rLenT, rLenS, rLenQ, rInt1, rTupL, rLstL, rIsN, rNotN, rInT, rAddS, rLtS, rInS1, rNinS1, rIxS, rSlS, rStL, rCt, rSL, tApp, tPopAt, tPopL, tJoinL, tIndex, xFld, xSet, xMeth, xMake, rGetS, rGetI, rInDS, rInDI, xPutS, xPutI, xGet2S, xGet2I, xPopI, rDctD, rLstD, rCatT, HO.ins.injEq, ixN0, ixN1, ixN2, ixN3, atI0, atI1, atI2, atI3, eqV_str, eqV_int, eqV_is, eqV_si, inV_nil, inV_cons, flatV, List.all_cons, List.all_nil, wd_eq, wd_ne0, wd_ne0', List.getElem?_cons_zero, List.getElem?_cons_succ, List.set_cons_zero, List.set_cons_succ, List.cons_append, List.nil_append, List.append_nil, Nat.reduceAdd, Nat.reduceLT, Option.some.injEq, V.int.injEq, V.str.injEq, V.bl.injEq, V.ref.injEq, HO.lst.injEq, HO.tup.injEq, HO.dK.injEq, List.cons.injEq, exists_eq_left, exists_eq_left', exists_eq_right, exists_eq_right', exists_and_left, exists_and_right, exists_const, exists_eq, exists_eq', and_assoc, true_and, and_true, false_and, and_false, true_or, or_true, false_or, or_false, reduceCtorEq, not_true_eq_false, not_false_eq_true, decide_true, decide_false, decide_eq_true_eq, decide_not, Bool.not_true, Bool.not_false, Bool.false_eq_true, Bool.true_and, Bool.and_true, Bool.false_and, Bool.and_false, Bool.true_or, Bool.or_true, Bool.false_or, Bool.or_false, if_true, if_false, ite_true, ite_false, Nat.reduceEqDiff, exists_false, eq_self, upd_same, Bool.not_eq_true', decide_eq_false_iff_not]
  have c0 : 1 ≤ stC k := by cases k <;> simp only [stC] <;> omega
  refine or2 (fun h0 => ?_) fun h0 h5 => ?_
  · refine st_seq ?_
    simp only [tIfS, tRet, tRetN, tAsg, gName, gSub, gCons, gNil, gTup, tDrop, tNext, tVar, tC, tOp, tUn, tTest, tB, tAnd, tOr, tNot, tAndV, tOrV, tNotV, tIf, tCons, tNil, xLst, xTup, xDic, tCB, tCall, tChain, tSl, tPart, tNoPart, rI, rI0, rU, rEq, rNe, scal, rXL, rXT, rXQ, rLenL, rLenT, rLenS, rLenQ, rInt1, rTupL, rLstL, rIsN, rNotN, rInT, rAddS, rLtS, rInS1, rNinS1, rIxS, rSlS, rStL, rCt, rSL, tApp, tPopAt, tPopL, tJoinL, tIndex, xFld, xSet, xMeth, xMake, rGetS, rGetI, rInDS, rInDI, xPutS, xPutI, xGet2S, xGet2I, xPopI, rDctD, rLstD, rCatT, HO.ins.injEq, ixN0, ixN1, ixN2, ixN3, atI0, atI1, atI2, atI3, eqV_str, eqV_int, eqV_is, eqV_si, inV_nil, inV_cons, flatV, List.all_cons, List.all_nil, wd_eq, wd_ne0, wd_ne0', List.getElem?_cons_zero, List.getElem?_cons_succ, List.set_cons_zero, List.set_cons_succ, List.cons_append, List.nil_append, List.append_nil, Nat.reduceAdd, Nat.reduceLT, Option.some.injEq, V.int.injEq, V.str.injEq, V.bl.injEq, V.ref.injEq, HO.lst.injEq, HO.tup.injEq, HO.dK.injEq, List.cons.injEq, exists_eq_left, exists_eq_left', exists_eq_right, exists_eq_right', exists_and_left, exists_and_right, exists_const, exists_eq, exists_eq', and_assoc, true_and, and_true, false_and, and_false, true_or, or_true, false_or, or_false, reduceCtorEq, not_true_eq_false, not_false_eq_true, decide_true, decide_false, decide_eq_true_eq, decide_not, Bool.not_true, Bool.not_false, Bool.false_eq_true, Bool.true_and, Bool.and_true, Bool.false_and, Bool.and_false, Bool.true_or, Bool.or_true, Bool.false_or, Bool.or_false, if_true, if_false, ite_true, ite_false, Nat.reduceEqDiff, exists_false, eq_self, upd_same, Bool.not_eq_true', decide_eq_false_iff_not]
    refine ⟨(by simp only [List.length_cons, List.length_nil]; decide), fun q H4 A4 => ?_⟩
    simp only [tIfS, tRet, tRetN, tAsg, gName, gSub, gCons, gNil, gTup, tDrop, tNext, tVar, tC, tOp, tUn, tTest, tB, tAnd, tOr, tNot, tAndV, tOrV, tNotV, tIf, tCons, tNil, xLst, xTup, xDic, tCB, tCall, tChain, tSl, tPart, tNoPart, rI, rI0, rU, rEq, rNe, scal, rXL, rXT, rXQ, rLenL, rLenT, rLenS, rLenQ, rInt1, rTupL, rLstL, rIsN, rNotN, rInT, rAddS, rLtS, rInS1, rNinS1, rIxS, rSlS, rStL, rCt, rSL, tApp, tPopAt, tPopL, tJoinL, tIndex, xFld, xSet, xMeth, xMake, rGetS, rGetI, rInDS, rInDI, xPutS, xPutI, xGet2S, xGet2I, xPopI, rDctD, rLstD, rCatT, HO.ins.injEq, ixN0, ixN1, ixN2, ixN3, atI0, atI1, atI2, atI3, eqV_str, eqV_int, eqV_is, eqV_si, inV_nil, inV_cons, flatV, List.all_cons, List.all_nil, wd_eq, wd_ne0, wd_ne0', List.getElem?_cons_zero, List.getElem?_cons_succ, List.set_cons_zero, List.set_cons_succ, List.cons_append, List.nil_append, List.append_nil, Nat.reduceAdd, Nat.reduceLT, Option.some.injEq, V.int.injEq, V.str.injEq, V.bl.injEq, V.ref.injEq, HO.lst.injEq, HO.tup.injEq, HO.dK.injEq, List.cons.injEq, exists_eq_left, exists_eq_left', exists_eq_right, exists_eq_right', exists_and_left, exists_and_right, exists_const, exists_eq, exists_eq', and_assoc, true_and, and_true, false_and, and_false, true_or, or_true, false_or, or_false, reduceCtorEq, not_true_eq_false, not_false_eq_true, decide_true, decide_false, decide_eq_true_eq, decide_not, Bool.not_true, Bool.not_false, Bool.false_eq_true, Bool.true_and, Bool.and_true, Bool.false_and, Bool.and_false, Bool.true_or, Bool.or_true, Bool.false_or, Bool.or_false, if_true, if_false, ite_true, ite_false, Nat.reduceEqDiff, exists_false, eq_self, upd_same, Bool.not_eq_true', decide_eq_false_iff_not, A4.at_]
    have B4 := B3.keep A4.fr
    refine i2 (fun _ => ?_) fun _ => ?_
    · refine ⟨b, l, j, rfl, B4, by omega, fun e v H5 oe de te B5 f5 => ⟨(by simp only [List.length_cons, List.length_nil]; decide), fun z H6 A6 => ?_⟩⟩
      exact kk (.say e) _ _ ⟨oe, by omega⟩ (by simp only [Sm.dp]; omega) (by simp only [Sm.cnt]; omega) (.tup A6.at_ (.cons (.str _) (.cons (te.tups A6.tu) .nil))) (B5.keep A6.fr) (((F3.al A4).trans f5).al A6)
    · refine ⟨b, l, rfl, B4, fun x H5 nx B5 f5 => ?_⟩
      refine ⟨b, l, j, rfl, B5, by omega, fun e v H6 oe de te B6 f6 => ⟨(by simp only [List.length_cons, List.length_nil]; decide), fun z H7 A7 => ?_⟩⟩
      exact kk (.set x e) _ _ ⟨nx, oe, by omega⟩ (by simp only [Sm.dp]; omega) (by simp only [Sm.cnt]; omega) (.tup A7.at_ (.cons (.str _) (.cons (.str _) (.cons (te.tups A7.tu) .nil)))) (B6.keep A7.fr) ((((F3.al A4).trans f5).trans f6).al A7)
  · unfold t_L_statement_3; refine st_seq ?_
    simp only [tIfS, tRet, tRetN, tAsg, gName, gSub, gCons, gNil, gTup, tDrop, tNext, tVar, tC, tOp, tUn, tTest, tB, tAnd, tOr, tNot, tAndV, tOrV, tNotV, tIf, tCons, tNil, xLst, xTup, xDic, tCB, tCall, tChain, tSl, tPart, tNoPart, rI, rI0, rU, rEq, rNe, scal, rXL, rXT, rXQ, rLenL, rLenT, rLenS, rLenQ, rInt1, rTupL, rLstL, rIsN, rNotN, rInT, rAddS, rLtS, rInS1, rNinS1, rIxS, rSlS, rStL, rCt, rSL, tApp, tPopAt, tPopL, tJoinL, tIndex, xFld, xSet, xMeth, xMake, rGetS, rGetI, rInDS, rInDI, xPutS, xPutI, xGet2S, xGet2I, xPopI, rDctD, rLstD, rCatT, HO.ins.injEq, ixN0, ixN1, ixN2, ixN3, atI0, atI1, atI2, atI3, eqV_str, eqV_int, eqV_is, eqV_si, inV_nil, inV_cons, flatV, List.all_cons, List.all_nil, wd_eq, wd_ne0, wd_ne0', List.getElem?_cons_zero, List.getElem?_cons_succ, List.set_cons_zero, List.set_cons_succ, List.cons_append, List.nil_append, List.append_nil, Nat.reduceAdd, Nat.reduceLT, Option.some.injEq, V.int.injEq, V.str.injEq, V.bl.injEq, V.ref.injEq, HO.lst.injEq, HO.tup.injEq, HO.dK.injEq, List.cons.injEq, exists_eq_left, exists_eq_left', exists_eq_right, exists_eq_right', exists_and_left, exists_and_right, exists_const, exists_eq, exists_eq', and_assoc, true_and, and_true, false_and, and_false, true_or, or_true, false_or, or_false, reduceCtorEq, not_true_eq_false, not_false_eq_true, decide_true, decide_false, decide_eq_true_eq, decide_not, Bool.not_true, Bool.not_false, Bool.false_eq_true, Bool.true_and, Bool.and_true, Bool.false_and, Bool.and_false, Bool.true_or, Bool.or_true, Bool.false_or, Bool.or_false, if_true, if_false, ite_true, ite_false, Nat.reduceEqDiff, exists_false, eq_self, upd_same, Bool.not_eq_true', decide_eq_false_iff_not]
    refine ⟨b, l, 2, rfl, B3, by decide, fun e ve H4 oe de te B4 f4 => ?_⟩
    unfold t_L_statement_4; refine st_seq ?_
    simp only [tIfS, tRet, tRetN, tAsg, gName, gSub, gCons, gNil, gTup, tDrop, tNext, tVar, tC, tOp, tUn, tTest, tB, tAnd, tOr, tNot, tAndV, tOrV, tNotV, tIf, tCons, tNil, xLst, xTup, xDic, tCB, tCall, tChain, tSl, tPart, tNoPart, rI, rI0, rU, rEq, rNe, scal, rXL, rXT, rXQ, rLenL, rLenT, rLenS, rLenQ, rInt1, rTupL, rLstL, rIsN, rNotN, rInT, rAddS, rLtS, rInS1, rNinS1, rIxS, rSlS, rStL, rCt, rSL, tApp, tPopAt, tPopL, tJoinL, tIndex, xFld, xSet, xMeth, xMake, rGetS, rGetI, rInDS, rInDI, xPutS, xPutI, xGet2S, xGet2I, xPopI, rDctD, rLstD, rCatT, HO.ins.injEq, ixN0, ixN1, ixN2, ixN3, atI0, atI1, atI2, atI3, eqV_str, eqV_int, eqV_is, eqV_si, inV_nil, inV_cons, flatV, List.all_cons, List.all_nil, wd_eq, wd_ne0, wd_ne0', List.getElem?_cons_zero, List.getElem?_cons_succ, List.set_cons_zero, List.set_cons_succ, List.cons_append, List.nil_append, List.append_nil, Nat.reduceAdd, Nat.reduceLT, Option.some.injEq, V.int.injEq, V.str.injEq, V.bl.injEq, V.ref.injEq, HO.lst.injEq, HO.tup.injEq, HO.dK.injEq, List.cons.injEq, exists_eq_left, exists_eq_left', exists_eq_right, exists_eq_right', exists_and_left, exists_and_right, exists_const, exists_eq, exists_eq', and_assoc, true_and, and_true, false_and, and_false, true_or, or_true, false_or, or_false, reduceCtorEq, not_true_eq_false, not_false_eq_true, decide_true, decide_false, decide_eq_true_eq, decide_not, Bool.not_true, Bool.not_false, Bool.false_eq_true, Bool.true_and, Bool.and_true, Bool.false_and, Bool.and_false, Bool.true_or, Bool.or_true, Bool.false_or, Bool.or_false, if_true, if_false, ite_true, ite_false, Nat.reduceEqDiff, exists_false, eq_self, upd_same, Bool.not_eq_true', decide_eq_false_iff_not]
    have ek : ((k - 1 : Nat) : Int) = (k : Int) - 1 := by omega
    refine ⟨b, l, 4, rfl, B4, by decide, by decide, fun m5 H5 m0 m1 B5 f5 => ?_⟩
    obtain ⟨m, rfl⟩ : ∃ m : Nat, m5 = m := ⟨m5.toNat, by omega⟩
    refine ⟨b, l, k - 1, m, by rw [ek], B5, by omega, by omega, fun ps vs H6 os ds cs ts B6 f6 => ?_⟩
    unfold t_L_statement_5; refine st_seq ?_
    simp only [tIfS, tRet, tRetN, tAsg, gName, gSub, gCons, gNil, gTup, tDrop, tNext, tVar, tC, tOp, tUn, tTest, tB, tAnd, tOr, tNot, tAndV, tOrV, tNotV, tIf, tCons, tNil, xLst, xTup, xDic, tCB, tCall, tChain, tSl, tPart, tNoPart, rI, rI0, rU, rEq, rNe, scal, rXL, rXT, rXQ, rLenL, rLenT, rLenS, rLenQ, rInt1, rTupL, rLstL, rIsN, rNotN, rInT, rAddS, rLtS, rInS1, rNinS1, rIxS, rSlS, rStL, rCt, rSL, tApp, tPopAt, tPopL, tJoinL, tIndex, xFld, xSet, xMeth, xMake, rGetS, rGetI, rInDS, rInDI, xPutS, xPutI, xGet2S, xGet2I, xPopI, rDctD, rLstD, rCatT, HO.ins.injEq, ixN0, ixN1, ixN2, ixN3, atI0, atI1, atI2, atI3, eqV_str, eqV_int, eqV_is, eqV_si, inV_nil, inV_cons, flatV, List.all_cons, List.all_nil, wd_eq, wd_ne0, wd_ne0', List.getElem?_cons_zero, List.getElem?_cons_succ, List.set_cons_zero, List.set_cons_succ, List.cons_append, List.nil_append, List.append_nil, Nat.reduceAdd, Nat.reduceLT, Option.some.injEq, V.int.injEq, V.str.injEq, V.bl.injEq, V.ref.injEq, HO.lst.injEq, HO.tup.injEq, HO.dK.injEq, List.cons.injEq, exists_eq_left, exists_eq_left', exists_eq_right, exists_eq_right', exists_and_left, exists_and_right, exists_const, exists_eq, exists_eq', and_assoc, true_and, and_true, false_and, and_false, true_or, or_true, false_or, or_false, reduceCtorEq, not_true_eq_false, not_false_eq_true, decide_true, decide_false, decide_eq_true_eq, decide_not, Bool.not_true, Bool.not_false, Bool.false_eq_true, Bool.true_and, Bool.and_true, Bool.false_and, Bool.and_false, Bool.true_or, Bool.or_true, Bool.false_or, Bool.or_false, if_true, if_false, ite_true, ite_false, Nat.reduceEqDiff, exists_false, eq_self, upd_same, Bool.not_eq_true', decide_eq_false_iff_not]
    have F6 : Fr [b, l] H H6 := ((F3.trans f4).trans f5).trans f6
    have te6 : Tp H6 e.d ve := (te.tups f5.tu).tups f6.tu
    obtain ⟨k', rfl⟩ : ∃ k', k = k' + 1 := ⟨k - 1, by omega⟩
    have cs' : cntL ps ≤ rowC (stC k') k' 3 := Nat.le_trans cs (rowC_mono (by omega))
    refine i2 (fun h7 => ?_) fun h7 => ?_
    · refine ⟨b, l, 3, rfl, B6, by decide, by decide, fun q7 H7 q0 q1 B7 f7 => ?_⟩
      obtain ⟨q, rfl⟩ : ∃ q : Nat, q7 = q := ⟨q7.toNat, by omega⟩
      refine ⟨b, l, k' + 1 - 1, q, by rw [ek], B7, by omega, by omega, fun pt vt H8 ot dt ct tt B8 f8 => ?_⟩
      refine ⟨(by simp only [List.length_cons, List.length_nil]; decide), fun z H9 A9 => ?_⟩
      have ct' : cntL pt ≤ rowC (stC k') k' 2 := Nat.le_trans ct (rowC_mono (by omega))
      refine kk (.ite e ps pt) _ _ ⟨⟨oe, by omega⟩, os, ot⟩ ?_ ?_ ?_ (B8.keep A9.fr) (((F6.trans f7).trans f8).al A9)
      · simp only [Sm.dp]
        simp only [Nat.add_sub_cancel] at ds dt
        omega
      · simp only [Sm.cnt, stC]; omega
      · have g8 := (f7.trans f8).tu.trans A9.tu
        exact .tup A9.at_ (.cons (.str _) (.cons (te6.tups g8) (.cons (ts.tups g8) (.cons (tt.tups A9.tu) .nil))))
    · refine ⟨(by simp only [List.length_cons, List.length_nil]; decide), fun z H7 A7 => ?_⟩
      refine kk (.whl e ps) _ _ ⟨⟨oe, by omega⟩, os⟩ ?_ ?_ ?_ (B6.keep A7.fr) (F6.al A7)
      · simp only [Sm.dp]
        simp only [Nat.add_sub_cancel] at ds
        omega
      · simp only [Sm.cnt, stC]; omega
      · exact .tup A7.at_ (.cons (.str _) (.cons (te6.tups A7.tu) (.cons (ts.tups A7.tu) .nil)))
theorem cntL_len : ∀ l : List Sm, l.length ≤ cntL l
  | [] => Nat.le_refl _
  | a :: r => by
    have h1 := cntL_len r
    have h2 : 1 ≤ a.cnt := by cases a <;> simp only [Sm.cnt] <;> omega
    simp only [cntL, List.length_cons]
    omega
theorem rd_L_counted {K : PySem.W.Frag} {vs : List V} {H : Hp} {Q : VK} {E : XK} (h : sp_L_counted vs H Q E) : t_L_counted K { nx := fun _ H' => Q .non H', rt := Q } (start ["_", "_", "_", "_"] vs) H := by
  obtain ⟨v, t, p, rfl, hv, hc, k⟩ := h
  show t_L_counted K _ [some v, some (.int t), none, none] H
  have hl := cntL_len p
  unfold rowD at hv
  simp only [tp_tup, tpl_cons, tpl_nil, tp_str] at hv
  obtain ⟨a, xs, rfl, ha, _, r1, rfl, rfl, v2, r2, rfl, ⟨a2, ys, rfl, ha2, hy⟩, rfl⟩ := hv
  unfold t_L_counted; refine st_seq ?_
  simp only [tIfS, tRet, tRetN, tAsg, gName, gSub, gCons, gNil, gTup, tDrop, tNext, tVar, tC, tOp, tUn, tTest, tB, tAnd, tOr, tNot, tAndV, tOrV, tNotV, tIf, tCons, tNil, xLst, xTup, xDic, tCB, tCall, tChain, tSl, tPart, tNoPart, rI, rI0, rU, rEq, rNe, scal, rXL, rXT, rXQ, rLenL, rLenT, rLenS, rLenQ, rInt1, rTupL, rLstL, rIsN, rNotN, rInT, rAddS, rLtS, rInS1, rNinS1, rIxS, rSlS, rStL, rCt, rSL, tApp, tPopAt, tPopL, tJoinL, tIndex, xFld, xSet, xMeth, xMake, rGetS, rGetI, rInDS, rInDI, xPutS, xPutI, xGet2S, xGet2I, xPopI, rDctD, rLstD, rCatT, HO.ins.injEq, ixN0, ixN1, ixN2, ixN3, atI0, atI1, atI2, atI3, eqV_str, eqV_int, eqV_is, eqV_si, inV_nil, inV_cons, flatV, List.all_cons, List.all_nil, wd_eq, wd_ne0, wd_ne0', List.getElem?_cons_zero, List.getElem?_cons_succ, List.set_cons_zero, List.set_cons_succ, List.cons_append, List.nil_append, List.append_nil, Nat.reduceAdd, Nat.reduceLT, Option.some.injEq, V.int.injEq, V.str.injEq, V.bl.injEq, V.ref.injEq, HO.lst.injEq, HO.tup.injEq, HO.dK.injEq, List.cons.injEq, exists_eq_left, exists_eq_left', exists_eq_right, exists_eq_right', exists_and_left, exists_and_right, exists_const, exists_eq, exists_eq', and_assoc, true_and, and_true, false_and, and_false, true_or, or_true, false_or, or_false, reduceCtorEq, not_true_eq_false, not_false_eq_true, decide_true, decide_false, decide_eq_true_eq, decide_not, Bool.not_true, Bool.not_false, Bool.false_eq_true, Bool.true_and, Bool.and_true, Bool.false_and, Bool.and_false, Bool.true_or, Bool.or_true, Bool.false_or, Bool.or_false, if_true, if_false, ite_true, ite_false, Nat.reduceEqDiff, exists_false, eq_self, upd_same, Bool.not_eq_true', decide_eq_false_iff_not]
  refine ⟨(by simp only [List.length_cons, List.length_nil]; decide), fun p1 H1 A1 => ⟨(by simp only [List.length_cons, List.length_nil]; decide), fun p2 H2 A2 => ⟨(by simp only [List.length_cons, List.length_nil]; decide), fun p3 H3 A3 => ⟨(by simp only [List.length_cons, List.length_nil]; decide), fun p4 H4 A4 => ?_⟩⟩⟩⟩
  have T4 : Tp H4 (Sm.d (.set ("d" : Str) (.op .sub (.name ("d" : Str)) (.num 1)))) (.ref p4) :=
    .tup A4.at_ (.cons (.str _) (.cons (.str _) (.cons (.tup (A4.k A3.at_) (.cons (.str _) (.cons (.tup (A4.k (A3.k (A2.k A1.at_))) (.cons (.str _) (.cons (.str _) .nil))) (.cons (.tup (A4.k (A3.k A2.at_)) (.cons (.str _) (.cons (.int _) .nil))) .nil)))) .nil)))
  have U4 : Tups H H4 := ((A1.tu.trans A2.tu).trans A3.tu).trans A4.tu
  have F4 : Fr [] H H4 := ((A1.fr.al A2).al A3).al A4
  unfold t_L_counted_1; refine st_seq ?_
  simp only [tIfS, tRet, tRetN, tAsg, gName, gSub, gCons, gNil, gTup, tDrop, tNext, tVar, tC, tOp, tUn, tTest, tB, tAnd, tOr, tNot, tAndV, tOrV, tNotV, tIf, tCons, tNil, xLst, xTup, xDic, tCB, tCall, tChain, tSl, tPart, tNoPart, rI, rI0, rU, rEq, rNe, scal, rXL, rXT, rXQ, rLenL, rLenT, rLenS, rLenQ, rInt1, rTupL, rLstL, rIsN, rNotN, rInT, rAddS, rLtS, rInS1, rNinS1, rIxS, rSlS, rStL, rCt, rSL, tApp, tPopAt, tPopL, tJoinL, tIndex, xFld, xSet, xMeth, xMake, rGetS, rGetI, rInDS, rInDI, xPutS, xPutI, xGet2S, xGet2I, xPopI, rDctD, rLstD, rCatT, HO.ins.injEq, ixN0, ixN1, ixN2, ixN3, atI0, atI1, atI2, atI3, eqV_str, eqV_int, eqV_is, eqV_si, inV_nil, inV_cons, flatV, List.all_cons, List.all_nil, wd_eq, wd_ne0, wd_ne0', List.getElem?_cons_zero, List.getElem?_cons_succ, List.set_cons_zero, List.set_cons_succ, List.cons_append, List.nil_append, List.append_nil, Nat.reduceAdd, Nat.reduceLT, Option.some.injEq, V.int.injEq, V.str.injEq, V.bl.injEq, V.ref.injEq, HO.lst.injEq, HO.tup.injEq, HO.dK.injEq, List.cons.injEq, exists_eq_left, exists_eq_left', exists_eq_right, exists_eq_right', exists_and_left, exists_and_right, exists_const, exists_eq, exists_eq', and_assoc, true_and, and_true, false_and, and_false, true_or, or_true, false_or, or_false, reduceCtorEq, not_true_eq_false, not_false_eq_true, decide_true, decide_false, decide_eq_true_eq, decide_not, Bool.not_true, Bool.not_false, Bool.false_eq_true, Bool.true_and, Bool.and_true, Bool.false_and, Bool.and_false, Bool.true_or, Bool.or_true, Bool.false_or, Bool.or_false, if_true, if_false, ite_true, ite_false, Nat.reduceEqDiff, exists_false, eq_self, upd_same, Bool.not_eq_true', decide_eq_false_iff_not]
  refine ⟨(by simp only [List.length_cons, List.length_nil]; decide), fun p5 H5 A5 => ?_⟩
  simp only [tIfS, tRet, tRetN, tAsg, gName, gSub, gCons, gNil, gTup, tDrop, tNext, tVar, tC, tOp, tUn, tTest, tB, tAnd, tOr, tNot, tAndV, tOrV, tNotV, tIf, tCons, tNil, xLst, xTup, xDic, tCB, tCall, tChain, tSl, tPart, tNoPart, rI, rI0, rU, rEq, rNe, scal, rXL, rXT, rXQ, rLenL, rLenT, rLenS, rLenQ, rInt1, rTupL, rLstL, rIsN, rNotN, rInT, rAddS, rLtS, rInS1, rNinS1, rIxS, rSlS, rStL, rCt, rSL, tApp, tPopAt, tPopL, tJoinL, tIndex, xFld, xSet, xMeth, xMake, rGetS, rGetI, rInDS, rInDI, xPutS, xPutI, xGet2S, xGet2I, xPopI, rDctD, rLstD, rCatT, HO.ins.injEq, ixN0, ixN1, ixN2, ixN3, atI0, atI1, atI2, atI3, eqV_str, eqV_int, eqV_is, eqV_si, inV_nil, inV_cons, flatV, List.all_cons, List.all_nil, wd_eq, wd_ne0, wd_ne0', List.getElem?_cons_zero, List.getElem?_cons_succ, List.set_cons_zero, List.set_cons_succ, List.cons_append, List.nil_append, List.append_nil, Nat.reduceAdd, Nat.reduceLT, Option.some.injEq, V.int.injEq, V.str.injEq, V.bl.injEq, V.ref.injEq, HO.lst.injEq, HO.tup.injEq, HO.dK.injEq, List.cons.injEq, exists_eq_left, exists_eq_left', exists_eq_right, exists_eq_right', exists_and_left, exists_and_right, exists_const, exists_eq, exists_eq', and_assoc, true_and, and_true, false_and, and_false, true_or, or_true, false_or, or_false, reduceCtorEq, not_true_eq_false, not_false_eq_true, decide_true, decide_false, decide_eq_true_eq, decide_not, Bool.not_true, Bool.not_false, Bool.false_eq_true, Bool.true_and, Bool.and_true, Bool.false_and, Bool.and_false, Bool.true_or, Bool.or_true, Bool.false_or, Bool.or_false, if_true, if_false, ite_true, ite_false, Nat.reduceEqDiff, exists_false, eq_self, upd_same, Bool.not_eq_true', decide_eq_false_iff_not, A5.k (U4 _ _ ha)]
  refine ⟨(by simp only [List.length_cons, List.length_nil]; decide), fun p6 H6 A6 => ?_⟩
  have U6 : Tups H4 H6 := A5.tu.trans A6.tu
  have yl : ys.length ≤ 20000 := by rw [hy.length, dL_map, List.length_map]; omega
  refine ⟨_, U6 _ _ (U4 _ _ ha2), _, A6.at_, Nat.le_trans (m := 20001) (by simp only [List.length_cons, List.length_nil]; omega) (by decide), fun p7 H7 h7 f7 => ?_⟩
  refine ⟨(by simp only [List.length_cons, List.length_nil]; decide), fun p8 H8 A8 => ⟨(by simp only [List.length_cons, List.length_nil]; decide), fun p9 H9 A9 => ?_⟩⟩
  refine ⟨(by simp only [List.length_cons, List.length_nil]; decide), fun q1 G1 C1 => ⟨(by simp only [List.length_cons, List.length_nil]; decide), fun q2 G2 C2 => ⟨(by simp only [List.length_cons, List.length_nil]; decide), fun q3 G3 C3 => ⟨(by simp only [List.length_cons, List.length_nil]; decide), fun q4 G4 C4 => ?_⟩⟩⟩⟩
  have W : Tups H9 G4 := ((C1.tu.trans C2.tu).trans C3.tu).trans C4.tu
  have W7 : Tups H7 G4 := (A8.tu.trans A9.tu).trans W
  have W4 : Tups H4 G4 := (U6.trans f7.tu).trans W7
  refine k _ _ ?_ ((((((((((F4.al A5).al A6).trans f7).al A8).al A9).al C1).al C2).al C3).al C4))
  refine .tup C4.at_ (.cons (.str _) (.cons (.tup (C4.k C3.at_) ?_) .nil))
  have e1 : dL (countP t p) = [Sm.d (.set ("d" : Str) (.num t)), Sm.d (.whl (.name ("d" : Str)) (p ++ [.set ("d" : Str) (.op .sub (.name ("d" : Str)) (.num 1))]))] := by simp only [countP, dL]
  rw [e1]
  refine .cons (.tup (C4.k (C3.k C2.at_)) (.cons (.str _) (.cons (.str _) (.cons (.tup (C4.k (C3.k (C2.k C1.at_))) (.cons (.str _) (.cons (.int _) .nil))) .nil)))) (.cons ?_ .nil)
  simp only [Sm.d]
  refine .tup (W _ _ A9.at_) (.cons (.str _) (.cons (.tup (((A6.tu.trans f7.tu).trans W7) _ _ A5.at_) (.cons (.str _) (.cons (.str _) .nil))) (.cons (.tup (W _ _ (A9.k A8.at_)) (.cons (.str _) (.cons (.tup (W7 _ _ h7) ?_) .nil))) .nil)))
  rw [dL_map, List.map_append]
  refine TpL.append ?_ (.cons (T4.tups W4) .nil)
  rw [← dL_map]
  exact hy.tups (U4.trans W4)
theorem rd_L_program {K : PySem.W.Frag} {vs : List V} {H : Hp} {Q : VK} {E : XK} (h : sp_L_program vs H Q E) : t_L_program K { nx := fun _ H' => Q .non H', rt := Q } (start ["_", "_", "_", "_"] vs) H := by
  obtain ⟨b, l, rfl, B, k⟩ := h
  show t_L_program K _ [some (.ref b), some (.int 3), none, none] H
  unfold t_L_program; refine st_seq ?_
  simp only [tIfS, tRet, tRetN, tAsg, gName, gSub, gCons, gNil, gTup, tDrop, tNext, tVar, tC, tOp, tUn, tTest, tB, tAnd, tOr, tNot, tAndV, tOrV, tNotV, tIf, tCons, tNil, xLst, xTup, xDic, tCB, tCall, tChain, tSl, tPart, tNoPart, rI, rI0, rU, rEq, rNe, scal, rXL, rXT, rXQ, rLenL, rLenT, rLenS, rLenQ, rInt1, rTupL, rLstL, rIsN, rNotN, rInT, rAddS, rLtS, rInS1, rNinS1, rIxS, rSlS, rStL, rCt, rSL, tApp, tPopAt, tPopL, tJoinL, tIndex, xFld, xSet, xMeth, xMake, rGetS, rGetI, rInDS, rInDI, xPutS, xPutI, xGet2S, xGet2I, xPopI, rDctD, rLstD, rCatT, HO.ins.injEq, ixN0, ixN1, ixN2, ixN3, atI0, atI1, atI2, atI3, eqV_str, eqV_int, eqV_is, eqV_si, inV_nil, inV_cons, flatV, List.all_cons, List.all_nil, wd_eq, wd_ne0, wd_ne0', List.getElem?_cons_zero, List.getElem?_cons_succ, List.set_cons_zero, List.set_cons_succ, List.cons_append, List.nil_append, List.append_nil, Nat.reduceAdd, Nat.reduceLT, Option.some.injEq, V.int.injEq, V.str.injEq, V.bl.injEq, V.ref.injEq, HO.lst.injEq, HO.tup.injEq, HO.dK.injEq, List.cons.injEq, exists_eq_left, exists_eq_left', exists_eq_right, exists_eq_right', exists_and_left, exists_and_right, exists_const, exists_eq, exists_eq', and_assoc, true_and, and_true, false_and, and_false, true_or, or_true, false_or, or_false, reduceCtorEq, not_true_eq_false, not_false_eq_true, decide_true, decide_false, decide_eq_true_eq, decide_not, Bool.not_true, Bool.not_false, Bool.false_eq_true, Bool.true_and, Bool.and_true, Bool.false_and, Bool.and_false, Bool.true_or, Bool.or_true, Bool.false_or, Bool.or_false, if_true, if_false, ite_true, ite_false, Nat.reduceEqDiff, exists_false, eq_self, upd_same, Bool.not_eq_true', decide_eq_false_iff_not]
  refine ⟨b, l, 3, rfl, B, by decide, by decide, fun r H1 r0 r1 B1 f1 => ?_⟩
  simp only [tIfS, tRet, tRetN, tAsg, gName, gSub, gCons, gNil, gTup, tDrop, tNext, tVar, tC, tOp, tUn, tTest, tB, tAnd, tOr, tNot, tAndV, tOrV, tNotV, tIf, tCons, tNil, xLst, xTup, xDic, tCB, tCall, tChain, tSl, tPart, tNoPart, rI, rI0, rU, rEq, rNe, scal, rXL, rXT, rXQ, rLenL, rLenT, rLenS, rLenQ, rInt1, rTupL, rLstL, rIsN, rNotN, rInT, rAddS, rLtS, rInS1, rNinS1, rIxS, rSlS, rStL, rCt, rSL, tApp, tPopAt, tPopL, tJoinL, tIndex, xFld, xSet, xMeth, xMake, rGetS, rGetI, rInDS, rInDI, xPutS, xPutI, xGet2S, xGet2I, xPopI, rDctD, rLstD, rCatT, HO.ins.injEq, ixN0, ixN1, ixN2, ixN3, atI0, atI1, atI2, atI3, eqV_str, eqV_int, eqV_is, eqV_si, inV_nil, inV_cons, flatV, List.all_cons, List.all_nil, wd_eq, wd_ne0, wd_ne0', List.getElem?_cons_zero, List.getElem?_cons_succ, List.set_cons_zero, List.set_cons_succ, List.cons_append, List.nil_append, List.append_nil, Nat.reduceAdd, Nat.reduceLT, Option.some.injEq, V.int.injEq, V.str.injEq, V.bl.injEq, V.ref.injEq, HO.lst.injEq, HO.tup.injEq, HO.dK.injEq, List.cons.injEq, exists_eq_left, exists_eq_left', exists_eq_right, exists_eq_right', exists_and_left, exists_and_right, exists_const, exists_eq, exists_eq', and_assoc, true_and, and_true, false_and, and_false, true_or, or_true, false_or, or_false, reduceCtorEq, not_true_eq_false, not_false_eq_true, decide_true, decide_false, decide_eq_true_eq, decide_not, Bool.not_true, Bool.not_false, Bool.false_eq_true, Bool.true_and, Bool.and_true, Bool.false_and, Bool.and_false, Bool.true_or, Bool.or_true, Bool.false_or, Bool.or_false, if_true, if_false, ite_true, ite_false, Nat.reduceEqDiff, exists_false, eq_self, upd_same, Bool.not_eq_true', decide_eq_false_iff_not]
  unfold t_L_program_1; refine st_seq ?_
  simp only [tIfS, tRet, tRetN, tAsg, gName, gSub, gCons, gNil, gTup, tDrop, tNext, tVar, tC, tOp, tUn, tTest, tB, tAnd, tOr, tNot, tAndV, tOrV, tNotV, tIf, tCons, tNil, xLst, xTup, xDic, tCB, tCall, tChain, tSl, tPart, tNoPart, rI, rI0, rU, rEq, rNe, scal, rXL, rXT, rXQ, rLenL, rLenT, rLenS, rLenQ, rInt1, rTupL, rLstL, rIsN, rNotN, rInT, rAddS, rLtS, rInS1, rNinS1, rIxS, rSlS, rStL, rCt, rSL, tApp, tPopAt, tPopL, tJoinL, tIndex, xFld, xSet, xMeth, xMake, rGetS, rGetI, rInDS, rInDI, xPutS, xPutI, xGet2S, xGet2I, xPopI, rDctD, rLstD, rCatT, HO.ins.injEq, ixN0, ixN1, ixN2, ixN3, atI0, atI1, atI2, atI3, eqV_str, eqV_int, eqV_is, eqV_si, inV_nil, inV_cons, flatV, List.all_cons, List.all_nil, wd_eq, wd_ne0, wd_ne0', List.getElem?_cons_zero, List.getElem?_cons_succ, List.set_cons_zero, List.set_cons_succ, List.cons_append, List.nil_append, List.append_nil, Nat.reduceAdd, Nat.reduceLT, Option.some.injEq, V.int.injEq, V.str.injEq, V.bl.injEq, V.ref.injEq, HO.lst.injEq, HO.tup.injEq, HO.dK.injEq, List.cons.injEq, exists_eq_left, exists_eq_left', exists_eq_right, exists_eq_right', exists_and_left, exists_and_right, exists_const, exists_eq, exists_eq', and_assoc, true_and, and_true, false_and, and_false, true_or, or_true, false_or, or_false, reduceCtorEq, not_true_eq_false, not_false_eq_true, decide_true, decide_false, decide_eq_true_eq, decide_not, Bool.not_true, Bool.not_false, Bool.false_eq_true, Bool.true_and, Bool.and_true, Bool.false_and, Bool.and_false, Bool.true_or, Bool.or_true, Bool.false_or, Bool.or_false, if_true, if_false, ite_true, ite_false, Nat.reduceEqDiff, exists_false, eq_self, upd_same, Bool.not_eq_true', decide_eq_false_iff_not]
  refine ⟨b, l, 8, rfl, B1, by decide, by decide, fun u H2 u0 u1 B2 f2 => ?_⟩
  simp only [tIfS, tRet, tRetN, tAsg, gName, gSub, gCons, gNil, gTup, tDrop, tNext, tVar, tC, tOp, tUn, tTest, tB, tAnd, tOr, tNot, tAndV, tOrV, tNotV, tIf, tCons, tNil, xLst, xTup, xDic, tCB, tCall, tChain, tSl, tPart, tNoPart, rI, rI0, rU, rEq, rNe, scal, rXL, rXT, rXQ, rLenL, rLenT, rLenS, rLenQ, rInt1, rTupL, rLstL, rIsN, rNotN, rInT, rAddS, rLtS, rInS1, rNinS1, rIxS, rSlS, rStL, rCt, rSL, tApp, tPopAt, tPopL, tJoinL, tIndex, xFld, xSet, xMeth, xMake, rGetS, rGetI, rInDS, rInDI, xPutS, xPutI, xGet2S, xGet2I, xPopI, rDctD, rLstD, rCatT, HO.ins.injEq, ixN0, ixN1, ixN2, ixN3, atI0, atI1, atI2, atI3, eqV_str, eqV_int, eqV_is, eqV_si, inV_nil, inV_cons, flatV, List.all_cons, List.all_nil, wd_eq, wd_ne0, wd_ne0', List.getElem?_cons_zero, List.getElem?_cons_succ, List.set_cons_zero, List.set_cons_succ, List.cons_append, List.nil_append, List.append_nil, Nat.reduceAdd, Nat.reduceLT, Option.some.injEq, V.int.injEq, V.str.injEq, V.bl.injEq, V.ref.injEq, HO.lst.injEq, HO.tup.injEq, HO.dK.injEq, List.cons.injEq, exists_eq_left, exists_eq_left', exists_eq_right, exists_eq_right', exists_and_left, exists_and_right, exists_const, exists_eq, exists_eq', and_assoc, true_and, and_true, false_and, and_false, true_or, or_true, false_or, or_false, reduceCtorEq, not_true_eq_false, not_false_eq_true, decide_true, decide_false, decide_eq_true_eq, decide_not, Bool.not_true, Bool.not_false, Bool.false_eq_true, Bool.true_and, Bool.and_true, Bool.false_and, Bool.and_false, Bool.true_or, Bool.or_true, Bool.false_or, Bool.or_false, if_true, if_false, ite_true, ite_false, Nat.reduceEqDiff, exists_false, eq_self, upd_same, Bool.not_eq_true', decide_eq_false_iff_not]
  have go : ∀ (m : Nat) (H3 : Hp), m ≤ 8 → BoxAt H3 b l → Fr [b, l] H H3 → t_L_program_2 K { nx := fun _ H' => Q .non H', rt := Q } [some (.ref b), some (.int 3), some (.int m), none] H3 := fun m H3 hm B3 f3 => ?tail
  refine i2 (fun _ => ?_) fun _ => ?_
  · refine ⟨b, l, 8, rfl, B2, by decide, by decide, fun s H3 s0 s1 B3 f3 => ?_⟩
    simp only [tIfS, tRet, tRetN, tAsg, gName, gSub, gCons, gNil, gTup, tDrop, tNext, tVar, tC, tOp, tUn, tTest, tB, tAnd, tOr, tNot, tAndV, tOrV, tNotV, tIf, tCons, tNil, xLst, xTup, xDic, tCB, tCall, tChain, tSl, tPart, tNoPart, rI, rI0, rU, rEq, rNe, scal, rXL, rXT, rXQ, rLenL, rLenT, rLenS, rLenQ, rInt1, rTupL, rLstL, rIsN, rNotN, rInT, rAddS, rLtS, rInS1, rNinS1, rIxS, rSlS, rStL, rCt, rSL, tApp, tPopAt, tPopL, tJoinL, tIndex, xFld, xSet, xMeth, xMake, rGetS, rGetI, rInDS, rInDI, xPutS, xPutI, xGet2S, xGet2I, xPopI, rDctD, rLstD, rCatT, HO.ins.injEq, ixN0, ixN1, ixN2, ixN3, atI0, atI1, atI2, atI3, eqV_str, eqV_int, eqV_is, eqV_si, inV_nil, inV_cons, flatV, List.all_cons, List.all_nil, wd_eq, wd_ne0, wd_ne0', List.getElem?_cons_zero, List.getElem?_cons_succ, List.set_cons_zero, List.set_cons_succ, List.cons_append, List.nil_append, List.append_nil, Nat.reduceAdd, Nat.reduceLT, Option.some.injEq, V.int.injEq, V.str.injEq, V.bl.injEq, V.ref.injEq, HO.lst.injEq, HO.tup.injEq, HO.dK.injEq, List.cons.injEq, exists_eq_left, exists_eq_left', exists_eq_right, exists_eq_right', exists_and_left, exists_and_right, exists_const, exists_eq, exists_eq', and_assoc, true_and, and_true, false_and, and_false, true_or, or_true, false_or, or_false, reduceCtorEq, not_true_eq_false, not_false_eq_true, decide_true, decide_false, decide_eq_true_eq, decide_not, Bool.not_true, Bool.not_false, Bool.false_eq_true, Bool.true_and, Bool.and_true, Bool.false_and, Bool.and_false, Bool.true_or, Bool.or_true, Bool.false_or, Bool.or_false, if_true, if_false, ite_true, ite_false, Nat.reduceEqDiff, exists_false, eq_self, upd_same, Bool.not_eq_true', decide_eq_false_iff_not]
    obtain ⟨m, hm⟩ : ∃ m : Nat, 1 + s = m := ⟨(1 + s).toNat, by omega⟩
    rw [hm]
    exact go m H3 (by omega) B3 ((f1.trans f2).trans f3)
  · obtain ⟨m, hm⟩ : ∃ m : Nat, 1 + r = m := ⟨(1 + r).toNat, by omega⟩
    rw [hm]
    exact go m H2 (by omega) B2 (f1.trans f2)
  case tail =>
    unfold t_L_program_2; refine st_seq ?_
    simp only [tIfS, tRet, tRetN, tAsg, gName, gSub, gCons, gNil, gTup, tDrop, tNext, tVar, tC, tOp, tUn, tTest, tB, tAnd, tOr, tNot, tAndV, tOrV, tNotV, tIf, tCons, tNil, xLst, xTup, xDic, tCB, tCall, tChain, tSl, tPart, tNoPart, rI, rI0, rU, rEq, rNe, scal, rXL, rXT, rXQ, rLenL, rLenT, rLenS, rLenQ, rInt1, rTupL, rLstL, rIsN, rNotN, rInT, rAddS, rLtS, rInS1, rNinS1, rIxS, rSlS, rStL, rCt, rSL, tApp, tPopAt, tPopL, tJoinL, tIndex, xFld, xSet, xMeth, xMake, rGetS, rGetI, rInDS, rInDI, xPutS, xPutI, xGet2S, xGet2I, xPopI, rDctD, rLstD, rCatT, HO.ins.injEq, ixN0, ixN1, ixN2, ixN3, atI0, atI1, atI2, atI3, eqV_str, eqV_int, eqV_is, eqV_si, inV_nil, inV_cons, flatV, List.all_cons, List.all_nil, wd_eq, wd_ne0, wd_ne0', List.getElem?_cons_zero, List.getElem?_cons_succ, List.set_cons_zero, List.set_cons_succ, List.cons_append, List.nil_append, List.append_nil, Nat.reduceAdd, Nat.reduceLT, Option.some.injEq, V.int.injEq, V.str.injEq, V.bl.injEq, V.ref.injEq, HO.lst.injEq, HO.tup.injEq, HO.dK.injEq, List.cons.injEq, exists_eq_left, exists_eq_left', exists_eq_right, exists_eq_right', exists_and_left, exists_and_right, exists_const, exists_eq, exists_eq', and_assoc, true_and, and_true, false_and, and_false, true_or, or_true, false_or, or_false, reduceCtorEq, not_true_eq_false, not_false_eq_true, decide_true, decide_false, decide_eq_true_eq, decide_not, Bool.not_true, Bool.not_false, Bool.false_eq_true, Bool.true_and, Bool.and_true, Bool.false_and, Bool.and_false, Bool.true_or, Bool.or_true, Bool.false_or, Bool.or_false, if_true, if_false, ite_true, ite_false, Nat.reduceEqDiff, exists_false, eq_self, upd_same, Bool.not_eq_true', decide_eq_false_iff_not]
    refine ⟨b, l, 3, m, rfl, B3, by decide, hm, fun p v H4 op dp cp tp B4 f4 => ?_⟩
    have cp' : cntL p ≤ 10928 := Nat.le_trans cp (Nat.le_trans (rowC_mono hm) (by decide))
    unfold t_L_program_3; refine st_seq ?_
    simp only [tIfS, tRet, tRetN, tAsg, gName, gSub, gCons, gNil, gTup, tDrop, tNext, tVar, tC, tOp, tUn, tTest, tB, tAnd, tOr, tNot, tAndV, tOrV, tNotV, tIf, tCons, tNil, xLst, xTup, xDic, tCB, tCall, tChain, tSl, tPart, tNoPart, rI, rI0, rU, rEq, rNe, scal, rXL, rXT, rXQ, rLenL, rLenT, rLenS, rLenQ, rInt1, rTupL, rLstL, rIsN, rNotN, rInT, rAddS, rLtS, rInS1, rNinS1, rIxS, rSlS, rStL, rCt, rSL, tApp, tPopAt, tPopL, tJoinL, tIndex, xFld, xSet, xMeth, xMake, rGetS, rGetI, rInDS, rInDI, xPutS, xPutI, xGet2S, xGet2I, xPopI, rDctD, rLstD, rCatT, HO.ins.injEq, ixN0, ixN1, ixN2, ixN3, atI0, atI1, atI2, atI3, eqV_str, eqV_int, eqV_is, eqV_si, inV_nil, inV_cons, flatV, List.all_cons, List.all_nil, wd_eq, wd_ne0, wd_ne0', List.getElem?_cons_zero, List.getElem?_cons_succ, List.set_cons_zero, List.set_cons_succ, List.cons_append, List.nil_append, List.append_nil, Nat.reduceAdd, Nat.reduceLT, Option.some.injEq, V.int.injEq, V.str.injEq, V.bl.injEq, V.ref.injEq, HO.lst.injEq, HO.tup.injEq, HO.dK.injEq, List.cons.injEq, exists_eq_left, exists_eq_left', exists_eq_right, exists_eq_right', exists_and_left, exists_and_right, exists_const, exists_eq, exists_eq', and_assoc, true_and, and_true, false_and, and_false, true_or, or_true, false_or, or_false, reduceCtorEq, not_true_eq_false, not_false_eq_true, decide_true, decide_false, decide_eq_true_eq, decide_not, Bool.not_true, Bool.not_false, Bool.false_eq_true, Bool.true_and, Bool.and_true, Bool.false_and, Bool.and_false, Bool.true_or, Bool.or_true, Bool.false_or, Bool.or_false, if_true, if_false, ite_true, ite_false, Nat.reduceEqDiff, exists_false, eq_self, upd_same, Bool.not_eq_true', decide_eq_false_iff_not]
    refine ⟨b, l, 2, rfl, B4, by decide, by decide, fun u H5 u0 u1 B5 f5 => ?_⟩
    simp only [tIfS, tRet, tRetN, tAsg, gName, gSub, gCons, gNil, gTup, tDrop, tNext, tVar, tC, tOp, tUn, tTest, tB, tAnd, tOr, tNot, tAndV, tOrV, tNotV, tIf, tCons, tNil, xLst, xTup, xDic, tCB, tCall, tChain, tSl, tPart, tNoPart, rI, rI0, rU, rEq, rNe, scal, rXL, rXT, rXQ, rLenL, rLenT, rLenS, rLenQ, rInt1, rTupL, rLstL, rIsN, rNotN, rInT, rAddS, rLtS, rInS1, rNinS1, rIxS, rSlS, rStL, rCt, rSL, tApp, tPopAt, tPopL, tJoinL, tIndex, xFld, xSet, xMeth, xMake, rGetS, rGetI, rInDS, rInDI, xPutS, xPutI, xGet2S, xGet2I, xPopI, rDctD, rLstD, rCatT, HO.ins.injEq, ixN0, ixN1, ixN2, ixN3, atI0, atI1, atI2, atI3, eqV_str, eqV_int, eqV_is, eqV_si, inV_nil, inV_cons, flatV, List.all_cons, List.all_nil, wd_eq, wd_ne0, wd_ne0', List.getElem?_cons_zero, List.getElem?_cons_succ, List.set_cons_zero, List.set_cons_succ, List.cons_append, List.nil_append, List.append_nil, Nat.reduceAdd, Nat.reduceLT, Option.some.injEq, V.int.injEq, V.str.injEq, V.bl.injEq, V.ref.injEq, HO.lst.injEq, HO.tup.injEq, HO.dK.injEq, List.cons.injEq, exists_eq_left, exists_eq_left', exists_eq_right, exists_eq_right', exists_and_left, exists_and_right, exists_const, exists_eq, exists_eq', and_assoc, true_and, and_true, false_and, and_false, true_or, or_true, false_or, or_false, reduceCtorEq, not_true_eq_false, not_false_eq_true, decide_true, decide_false, decide_eq_true_eq, decide_not, Bool.not_true, Bool.not_false, Bool.false_eq_true, Bool.true_and, Bool.and_true, Bool.false_and, Bool.and_false, Bool.true_or, Bool.or_true, Bool.false_or, Bool.or_false, if_true, if_false, ite_true, ite_false, Nat.reduceEqDiff, exists_false, eq_self, upd_same, Bool.not_eq_true', decide_eq_false_iff_not]
    refine i2 (fun _ => ?_) fun _ => ?_
    · refine ⟨b, l, 20, rfl, B5, by decide, by decide, fun t H6 t0 t1 B6 f6 => ?_⟩
      simp only [tIfS, tRet, tRetN, tAsg, gName, gSub, gCons, gNil, gTup, tDrop, tNext, tVar, tC, tOp, tUn, tTest, tB, tAnd, tOr, tNot, tAndV, tOrV, tNotV, tIf, tCons, tNil, xLst, xTup, xDic, tCB, tCall, tChain, tSl, tPart, tNoPart, rI, rI0, rU, rEq, rNe, scal, rXL, rXT, rXQ, rLenL, rLenT, rLenS, rLenQ, rInt1, rTupL, rLstL, rIsN, rNotN, rInT, rAddS, rLtS, rInS1, rNinS1, rIxS, rSlS, rStL, rCt, rSL, tApp, tPopAt, tPopL, tJoinL, tIndex, xFld, xSet, xMeth, xMake, rGetS, rGetI, rInDS, rInDI, xPutS, xPutI, xGet2S, xGet2I, xPopI, rDctD, rLstD, rCatT, HO.ins.injEq, ixN0, ixN1, ixN2, ixN3, atI0, atI1, atI2, atI3, eqV_str, eqV_int, eqV_is, eqV_si, inV_nil, inV_cons, flatV, List.all_cons, List.all_nil, wd_eq, wd_ne0, wd_ne0', List.getElem?_cons_zero, List.getElem?_cons_succ, List.set_cons_zero, List.set_cons_succ, List.cons_append, List.nil_append, List.append_nil, Nat.reduceAdd, Nat.reduceLT, Option.some.injEq, V.int.injEq, V.str.injEq, V.bl.injEq, V.ref.injEq, HO.lst.injEq, HO.tup.injEq, HO.dK.injEq, List.cons.injEq, exists_eq_left, exists_eq_left', exists_eq_right, exists_eq_right', exists_and_left, exists_and_right, exists_const, exists_eq, exists_eq', and_assoc, true_and, and_true, false_and, and_false, true_or, or_true, false_or, or_false, reduceCtorEq, not_true_eq_false, not_false_eq_true, decide_true, decide_false, decide_eq_true_eq, decide_not, Bool.not_true, Bool.not_false, Bool.false_eq_true, Bool.true_and, Bool.and_true, Bool.false_and, Bool.and_false, Bool.true_or, Bool.or_true, Bool.false_or, Bool.or_false, if_true, if_false, ite_true, ite_false, Nat.reduceEqDiff, exists_false, eq_self, upd_same, Bool.not_eq_true', decide_eq_false_iff_not]
      refine ⟨v, 1 + t, p, rfl, (tp.tups f5.tu).tups f6.tu, by omega, fun v' H7 t7 f7 => ?_⟩
      unfold t_L_program_4
      simp only [tIfS, tRet, tRetN, tAsg, gName, gSub, gCons, gNil, gTup, tDrop, tNext, tVar, tC, tOp, tUn, tTest, tB, tAnd, tOr, tNot, tAndV, tOrV, tNotV, tIf, tCons, tNil, xLst, xTup, xDic, tCB, tCall, tChain, tSl, tPart, tNoPart, rI, rI0, rU, rEq, rNe, scal, rXL, rXT, rXQ, rLenL, rLenT, rLenS, rLenQ, rInt1, rTupL, rLstL, rIsN, rNotN, rInT, rAddS, rLtS, rInS1, rNinS1, rIxS, rSlS, rStL, rCt, rSL, tApp, tPopAt, tPopL, tJoinL, tIndex, xFld, xSet, xMeth, xMake, rGetS, rGetI, rInDS, rInDI, xPutS, xPutI, xGet2S, xGet2I, xPopI, rDctD, rLstD, rCatT, HO.ins.injEq, ixN0, ixN1, ixN2, ixN3, atI0, atI1, atI2, atI3, eqV_str, eqV_int, eqV_is, eqV_si, inV_nil, inV_cons, flatV, List.all_cons, List.all_nil, wd_eq, wd_ne0, wd_ne0', List.getElem?_cons_zero, List.getElem?_cons_succ, List.set_cons_zero, List.set_cons_succ, List.cons_append, List.nil_append, List.append_nil, Nat.reduceAdd, Nat.reduceLT, Option.some.injEq, V.int.injEq, V.str.injEq, V.bl.injEq, V.ref.injEq, HO.lst.injEq, HO.tup.injEq, HO.dK.injEq, List.cons.injEq, exists_eq_left, exists_eq_left', exists_eq_right, exists_eq_right', exists_and_left, exists_and_right, exists_const, exists_eq, exists_eq', and_assoc, true_and, and_true, false_and, and_false, true_or, or_true, false_or, or_false, reduceCtorEq, not_true_eq_false, not_false_eq_true, decide_true, decide_false, decide_eq_true_eq, decide_not, Bool.not_true, Bool.not_false, Bool.false_eq_true, Bool.true_and, Bool.and_true, Bool.false_and, Bool.and_false, Bool.true_or, Bool.or_true, Bool.false_or, Bool.or_false, if_true, if_false, ite_true, ite_false, Nat.reduceEqDiff, exists_false, eq_self, upd_same, Bool.not_eq_true', decide_eq_false_iff_not]
      refine k (countP (1 + t) p) _ _ ?_ ?_ ?_ t7 (B6.keep f7) ((((f3.trans f4).trans f5).trans f6).trans f7.sub0)
      · refine ⟨⟨nm_d, ⟨by omega, by omega⟩, by simp only [Ex.dep]; decide⟩, ⟨⟨⟨nm_d, by decide⟩, okL_append op ⟨⟨nm_d, ⟨nm_d, by decide, by decide⟩, by decide⟩, trivial⟩⟩, trivial⟩⟩
      · simp only [countP, dpL, Sm.dp, dpL_snoc]; omega
      · simp only [countP, cntL, Sm.cnt, cntL_snoc]; omega
    · unfold t_L_program_4
      simp only [tIfS, tRet, tRetN, tAsg, gName, gSub, gCons, gNil, gTup, tDrop, tNext, tVar, tC, tOp, tUn, tTest, tB, tAnd, tOr, tNot, tAndV, tOrV, tNotV, tIf, tCons, tNil, xLst, xTup, xDic, tCB, tCall, tChain, tSl, tPart, tNoPart, rI, rI0, rU, rEq, rNe, scal, rXL, rXT, rXQ, rLenL, rLenT, rLenS, rLenQ, rInt1, rTupL, rLstL, rIsN, rNotN, rInT, rAddS, rLtS, rInS1, rNinS1, rIxS, rSlS, rStL, rCt, rSL, tApp, tPopAt, tPopL, tJoinL, tIndex, xFld, xSet, xMeth, xMake, rGetS, rGetI, rInDS, rInDI, xPutS, xPutI, xGet2S, xGet2I, xPopI, rDctD, rLstD, rCatT, HO.ins.injEq, ixN0, ixN1, ixN2, ixN3, atI0, atI1, atI2, atI3, eqV_str, eqV_int, eqV_is, eqV_si, inV_nil, inV_cons, flatV, List.all_cons, List.all_nil, wd_eq, wd_ne0, wd_ne0', List.getElem?_cons_zero, List.getElem?_cons_succ, List.set_cons_zero, List.set_cons_succ, List.cons_append, List.nil_append, List.append_nil, Nat.reduceAdd, Nat.reduceLT, Option.some.injEq, V.int.injEq, V.str.injEq, V.bl.injEq, V.ref.injEq, HO.lst.injEq, HO.tup.injEq, HO.dK.injEq, List.cons.injEq, exists_eq_left, exists_eq_left', exists_eq_right, exists_eq_right', exists_and_left, exists_and_right, exists_const, exists_eq, exists_eq', and_assoc, true_and, and_true, false_and, and_false, true_or, or_true, false_or, or_false, reduceCtorEq, not_true_eq_false, not_false_eq_true, decide_true, decide_false, decide_eq_true_eq, decide_not, Bool.not_true, Bool.not_false, Bool.false_eq_true, Bool.true_and, Bool.and_true, Bool.false_and, Bool.and_false, Bool.true_or, Bool.or_true, Bool.false_or, Bool.or_false, if_true, if_false, ite_true, ite_false, Nat.reduceEqDiff, exists_false, eq_self, upd_same, Bool.not_eq_true', decide_eq_false_iff_not]
      exact k p _ _ op (by omega) (by omega) (tp.tups f5.tu) B5 ((f3.trans f4).trans f5)
end Hn

namespace Hn
open PySem PySem.Spec PyProof.Rows L2
/-- _law_part_code -/
def t_L_part_code (K : PySem.W.Frag) (n : Nat) : TS :=
  (tSeq (tIfS (tTest (tOp (rInT false) (tOp rXT (tVar 0) (tC (.int 0))) (xTup (tCons (tC (.str (wd 0))) (tCons (tC (.str (wd 1))) (tCons (tC (.str (wd 2))) tNil)))))) (tRet (xLst (tCons (tVar 0) tNil))) tNext)
    (tRet (tOp rCt (tOp rCt (tCall (sp_L_part_code n) [] E0 (tCons (tOp rXT (tVar 0) (tC (.int 1))) tNil)) (tCall (sp_L_part_code n) [] E0 (tCons (tOp rXT (tVar 0) (tC (.int 2))) tNil))) (xLst (tCons (xTup (tCons (tOp rXT (tVar 0) (tC (.int 0))) tNil)) tNil)))))

/-- _law_code from 8 -/
def t_L_code_8 (K : PySem.W.Frag) (n : Nat) : TS :=
  (tSeq (tAsg (tCall (sp_L_code n) [] E0 (tCons (tOp rXT (tVar 0) (tC (.int 3))) (tCons (tVar 9) tNil))) (gName 10))
    (tRet (tOp rCt (tOp rCt (tOp rCt (tOp rCt (tVar 5) (xLst (tCons (xTup (tCons (tC (.str (wd 9))) (tCons (tVar 9) tNil))) tNil))) (tVar 8)) (xLst (tCons (xTup (tCons (tC (.str (wd 10))) (tCons (tOp (rI0 fun i j => .int (i + j)) (tVar 9) (tCB rLenL (tCons (tVar 10) tNil))) tNil))) tNil))) (tVar 10))))

/-- _law_code from 7 -/
def t_L_code_7 (K : PySem.W.Frag) (n : Nat) : TS :=
  tSeq (tAsg (tOp (rI0 fun i j => .int (i + j)) (tOp (rI0 fun i j => .int (i + j)) (tOp (rI0 fun i j => .int (i + j)) (tVar 1) (tCB rLenL (tCons (tVar 5) tNil))) (tCB rLenL (tCons (tVar 8) tNil))) (tC (.int 2))) (gName 9)) (t_L_code_8 K n)

/-- _law_code from 6 -/
def t_L_code_6 (K : PySem.W.Frag) (n : Nat) : TS :=
  tSeq (tAsg (tCall (sp_L_code n) [] E0 (tCons (tOp rXT (tVar 0) (tC (.int 2))) (tCons (tOp (rI0 fun i j => .int (i + j)) (tOp (rI0 fun i j => .int (i + j)) (tVar 1) (tCB rLenL (tCons (tVar 5) tNil))) (tC (.int 1))) tNil))) (gName 8)) (t_L_code_7 K n)

/-- _law_code from 5 -/
def t_L_code_5 (K : PySem.W.Frag) (n : Nat) : TS :=
  tSeq (tIfS (tTest (tOp rEq (tVar 2) (tC (.str (wd 15))))) (tSeq (tAsg (tCall (sp_L_code n) [] E0 (tCons (tOp rXT (tVar 0) (tC (.int 2))) (tCons (tOp (rI0 fun i j => .int (i + j)) (tOp (rI0 fun i j => .int (i + j)) (tVar 1) (tCB rLenL (tCons (tVar 5) tNil))) (tC (.int 2))) tNil))) (gName 6))
    (tSeq (tAsg (tOp (rI0 fun i j => .int (i + j)) (tOp (rI0 fun i j => .int (i + j)) (tOp (rI0 fun i j => .int (i + j)) (tVar 1) (tCB rLenL (tCons (tVar 5) tNil))) (tCB rLenL (tCons (tVar 6) tNil))) (tC (.int 3))) (gName 7))
    (tRet (tOp rCt (tOp rCt (tOp rCt (tOp rCt (xLst (tCons (xTup (tCons (tC (.str (wd 11))) tNil)) tNil)) (tVar 5)) (xLst (tCons (xTup (tCons (tC (.str (wd 9))) (tCons (tVar 7) tNil))) tNil))) (tVar 6)) (xLst (tCons (xTup (tCons (tC (.str (wd 10))) (tCons (tVar 1) tNil))) tNil)))))) tNext) (t_L_code_6 K n)

/-- _law_code from 4 -/
def t_L_code_4 (K : PySem.W.Frag) (n : Nat) : TS :=
  tSeq (tAsg (tCall (sp_L_part_code 7) [] E0 (tCons (tOp rXT (tVar 0) (tC (.int 1))) tNil)) (gName 5)) (t_L_code_5 K n)

/-- _law_code from 3 -/
def t_L_code_3 (K : PySem.W.Frag) (n : Nat) : TS :=
  tSeq (tIfS (tTest (tOp rEq (tVar 2) (tC (.str (wd 8))))) (tRet (tOp rCt (tCall (sp_L_part_code 7) [] E0 (tCons (tOp rXT (tVar 0) (tC (.int 2))) tNil)) (xLst (tCons (xTup (tCons (tC (.str (wd 8))) (tCons (tOp rXT (tVar 0) (tC (.int 1))) tNil))) tNil)))) tNext) (t_L_code_4 K n)

/-- _law_code from 2 -/
def t_L_code_2 (K : PySem.W.Frag) (n : Nat) : TS :=
  tSeq (tIfS (tTest (tOp rEq (tVar 2) (tC (.str (wd 7))))) (tRet (tOp rCt (tCall (sp_L_part_code 7) [] E0 (tCons (tOp rXT (tVar 0) (tC (.int 1))) tNil)) (xLst (tCons (xTup (tCons (tC (.str (wd 7))) tNil)) tNil)))) tNext) (t_L_code_3 K n)

/-- _law_code from 1 -/
def t_L_code_1 (K : PySem.W.Frag) (n : Nat) : TS :=
  tSeq (tIfS (tTest (tOp rEq (tVar 2) (tC (.str (wd 13))))) (tSeq (tAsg (xLst tNil) (gName 3))
    (tSeq (tFor (iTup K (tOp rXT (tVar 0) (tC (.int 1)))) (gName 4)
    (tAsg (tOp rCt (tVar 3) (tCall (sp_L_code n) [] E0 (tCons (tVar 4) (tCons (tOp (rI0 fun i j => .int (i + j)) (tVar 1) (tCB rLenL (tCons (tVar 3) tNil))) tNil)))) (gName 3)))
    (tRet (tVar 3)))) tNext) (t_L_code_2 K n)

/-- _law_code -/
def t_L_code (K : PySem.W.Frag) (n : Nat) : TS :=
  tSeq (tAsg (tOp rXT (tVar 0) (tC (.int 0))) (gName 2)) (t_L_code_1 K n)

/-- _law_coded -/
def t_L_coded (K : PySem.W.Frag) : TS :=
  (tRet (tCB rTupL (tCons (tOp rCt (tCall (sp_L_code 20) [] E0 (tCons (tVar 0) (tCons (tC (.int 0)) tNil))) (xLst (tCons (xTup (tCons (tC (.str (wd 12))) tNil)) tNil))) tNil)))

theorem wd_ne {i j : Nat} (hi : i < 42) (hj : j < 42) (h : i ≠ j) : decide (wd i = wd j) = false := decide_eq_false fun e => h (by rw [wd_eq hi hj] at e; exact e)
theorem sg_ne (s : Sg) {i : Nat} (hi : i < 3 ∨ (6 < i ∧ i < 42)) : decide (wd i = s.s) = false := by
  have h : s.ix < 42 ∧ 3 ≤ s.ix ∧ s.ix ≤ 6 := by cases s <;> decide
  exact wd_ne (by omega) h.1 (by omega)
theorem sg_ne' (s : Sg) {i : Nat} (hi : i < 3 ∨ (6 < i ∧ i < 42)) : decide (s.s = wd i) = false := by
  have h : s.ix < 42 ∧ 3 ≤ s.ix ∧ s.ix ≤ 6 := by cases s <;> decide
  exact wd_ne h.1 (by omega) (by omega)
theorem big {n : Nat} (h : n ≤ 8000000) : n ≤ sizeLine := Nat.le_trans h (by decide)
theorem bigL {n : Nat} (h : n ≤ 8000000) : n < sizeLine := Nat.lt_of_le_of_lt h (by decide)
theorem Ex.len10 {e : Ex} (h : e.dep ≤ 10) : e.code.length ≤ 1024 := Ex.lenM h
theorem rd_L_part_code {K : PySem.W.Frag} {n : Nat} {vs : List V} {H : Hp} {Q : VK} {E : XK} (h : sp_L_part_code (n + 1) vs H Q E) : t_L_part_code K n { nx := fun _ H' => Q .non H', rt := Q } (start ["_"] vs) H := by
  obtain ⟨v, e, rfl, hv, hd, hd', k⟩ := h
  show t_L_part_code K n _ [some v] H
  unfold t_L_part_code; refine st_seq ?_
  cases e with
  | num i =>
    have hv0 := hv
    simp only [Ex.d, tp_tup, tpl_cons, tpl_nil, tp_str, tp_int] at hv
    obtain ⟨a, xs, rfl, ha, _, r1, rfl, rfl, _, r2, rfl, rfl, rfl⟩ := hv
    simp only [tIfS, tRet, tRetN, tAsg, gName, gSub, gCons, gNil, gTup, tDrop, tNext, tVar, tC, tOp, tUn, tTest, tB, tAnd, tOr, tNot, tAndV, tOrV, tNotV, tIf, tCons, tNil, xLst, xTup, xDic, tCB, tCall, tChain, tSl, tPart, tNoPart, rI, rI0, rU, rEq, rNe, scal, rXL, rXT, rXQ, rLenL, rLenT, rLenS, rLenQ, rInt1, rTupL, rLstL, rIsN, rNotN, rInT, rAddS, rLtS, rInS1, rNinS1, rIxS, rSlS, rStL, rCt, rSL, tApp, tPopAt, tPopL, tJoinL, tIndex, xFld, xSet, xMeth, xMake, rGetS, rGetI, rInDS, rInDI, xPutS, xPutI, xGet2S, xGet2I, xPopI, rDctD, rLstD, rCatT, HO.ins.injEq, ixN0, ixN1, ixN2, ixN3, atI0, atI1, atI2, atI3, eqV_str, eqV_int, eqV_is, eqV_si, inV_nil, inV_cons, flatV, List.all_cons, List.all_nil, wd_eq, wd_ne0, wd_ne0', List.getElem?_cons_zero, List.getElem?_cons_succ, List.set_cons_zero, List.set_cons_succ, List.cons_append, List.nil_append, List.append_nil, Nat.reduceAdd, Nat.reduceLT, Option.some.injEq, V.int.injEq, V.str.injEq, V.bl.injEq, V.ref.injEq, HO.lst.injEq, HO.tup.injEq, HO.dK.injEq, List.cons.injEq, exists_eq_left, exists_eq_left', exists_eq_right, exists_eq_right', exists_and_left, exists_and_right, exists_const, exists_eq, exists_eq', and_assoc, true_and, and_true, false_and, and_false, true_or, or_true, false_or, or_false, reduceCtorEq, not_true_eq_false, not_false_eq_true, decide_true, decide_false, decide_eq_true_eq, decide_not, Bool.not_true, Bool.not_false, Bool.false_eq_true, Bool.true_and, Bool.and_true, Bool.false_and, Bool.and_false, Bool.true_or, Bool.or_true, Bool.false_or, Bool.or_false, if_true, if_false, ite_true, ite_false, Nat.reduceEqDiff, exists_false, eq_self, upd_same, Bool.not_eq_true', decide_eq_false_iff_not, ha]
    refine ⟨(by simp only [List.length_cons, List.length_nil]; decide), fun p H1 A1 => ?_⟩
    simp only [tIfS, tRet, tRetN, tAsg, gName, gSub, gCons, gNil, gTup, tDrop, tNext, tVar, tC, tOp, tUn, tTest, tB, tAnd, tOr, tNot, tAndV, tOrV, tNotV, tIf, tCons, tNil, xLst, xTup, xDic, tCB, tCall, tChain, tSl, tPart, tNoPart, rI, rI0, rU, rEq, rNe, scal, rXL, rXT, rXQ, rLenL, rLenT, rLenS, rLenQ, rInt1, rTupL, rLstL, rIsN, rNotN, rInT, rAddS, rLtS, rInS1, rNinS1, rIxS, rSlS, rStL, rCt, rSL, tApp, tPopAt, tPopL, tJoinL, tIndex, xFld, xSet, xMeth, xMake, rGetS, rGetI, rInDS, rInDI, xPutS, xPutI, xGet2S, xGet2I, xPopI, rDctD, rLstD, rCatT, HO.ins.injEq, ixN0, ixN1, ixN2, ixN3, atI0, atI1, atI2, atI3, eqV_str, eqV_int, eqV_is, eqV_si, inV_nil, inV_cons, flatV, List.all_cons, List.all_nil, wd_eq, wd_ne0, wd_ne0', List.getElem?_cons_zero, List.getElem?_cons_succ, List.set_cons_zero, List.set_cons_succ, List.cons_append, List.nil_append, List.append_nil, Nat.reduceAdd, Nat.reduceLT, Option.some.injEq, V.int.injEq, V.str.injEq, V.bl.injEq, V.ref.injEq, HO.lst.injEq, HO.tup.injEq, HO.dK.injEq, List.cons.injEq, exists_eq_left, exists_eq_left', exists_eq_right, exists_eq_right', exists_and_left, exists_and_right, exists_const, exists_eq, exists_eq', and_assoc, true_and, and_true, false_and, and_false, true_or, or_true, false_or, or_false, reduceCtorEq, not_true_eq_false, not_false_eq_true, decide_true, decide_false, decide_eq_true_eq, decide_not, Bool.not_true, Bool.not_false, Bool.false_eq_true, Bool.true_and, Bool.and_true, Bool.false_and, Bool.and_false, Bool.true_or, Bool.or_true, Bool.false_or, Bool.or_false, if_true, if_false, ite_true, ite_false, Nat.reduceEqDiff, exists_false, eq_self, upd_same, Bool.not_eq_true', decide_eq_false_iff_not, A1.at_]
    refine ⟨(by simp only [List.length_cons, List.length_nil]; decide), fun q H2 A2 => ?_⟩
    exact k _ _ _ A2.at_ (.cons ((hv0.tups A1.tu).tups A2.tu) .nil) (A1.fr.al A2)
  | text i =>
    have hv0 := hv
    simp only [Ex.d, tp_tup, tpl_cons, tpl_nil, tp_str, tp_int] at hv
    obtain ⟨a, xs, rfl, ha, _, r1, rfl, rfl, _, r2, rfl, rfl, rfl⟩ := hv
    simp only [tIfS, tRet, tRetN, tAsg, gName, gSub, gCons, gNil, gTup, tDrop, tNext, tVar, tC, tOp, tUn, tTest, tB, tAnd, tOr, tNot, tAndV, tOrV, tNotV, tIf, tCons, tNil, xLst, xTup, xDic, tCB, tCall, tChain, tSl, tPart, tNoPart, rI, rI0, rU, rEq, rNe, scal, rXL, rXT, rXQ, rLenL, rLenT, rLenS, rLenQ, rInt1, rTupL, rLstL, rIsN, rNotN, rInT, rAddS, rLtS, rInS1, rNinS1, rIxS, rSlS, rStL, rCt, rSL, tApp, tPopAt, tPopL, tJoinL, tIndex, xFld, xSet, xMeth, xMake, rGetS, rGetI, rInDS, rInDI, xPutS, xPutI, xGet2S, xGet2I, xPopI, rDctD, rLstD, rCatT, HO.ins.injEq, ixN0, ixN1, ixN2, ixN3, atI0, atI1, atI2, atI3, eqV_str, eqV_int, eqV_is, eqV_si, inV_nil, inV_cons, flatV, List.all_cons, List.all_nil, wd_eq, wd_ne0, wd_ne0', List.getElem?_cons_zero, List.getElem?_cons_succ, List.set_cons_zero, List.set_cons_succ, List.cons_append, List.nil_append, List.append_nil, Nat.reduceAdd, Nat.reduceLT, Option.some.injEq, V.int.injEq, V.str.injEq, V.bl.injEq, V.ref.injEq, HO.lst.injEq, HO.tup.injEq, HO.dK.injEq, List.cons.injEq, exists_eq_left, exists_eq_left', exists_eq_right, exists_eq_right', exists_and_left, exists_and_right, exists_const, exists_eq, exists_eq', and_assoc, true_and, and_true, false_and, and_false, true_or, or_true, false_or, or_false, reduceCtorEq, not_true_eq_false, not_false_eq_true, decide_true, decide_false, decide_eq_true_eq, decide_not, Bool.not_true, Bool.not_false, Bool.false_eq_true, Bool.true_and, Bool.and_true, Bool.false_and, Bool.and_false, Bool.true_or, Bool.or_true, Bool.false_or, Bool.or_false, if_true, if_false, ite_true, ite_false, Nat.reduceEqDiff, exists_false, eq_self, upd_same, Bool.not_eq_true', decide_eq_false_iff_not, ha]
    refine ⟨(by simp only [List.length_cons, List.length_nil]; decide), fun p H1 A1 => ?_⟩
    simp only [tIfS, tRet, tRetN, tAsg, gName, gSub, gCons, gNil, gTup, tDrop, tNext, tVar, tC, tOp, tUn, tTest, tB, tAnd, tOr, tNot, tAndV, tOrV, tNotV, tIf, tCons, tNil, xLst, xTup, xDic, tCB, tCall, tChain, tSl, tPart, tNoPart, rI, rI0, rU, rEq, rNe, scal, rXL, rXT, rXQ, rLenL, rLenT, rLenS, rLenQ, rInt1, rTupL, rLstL, rIsN, rNotN, rInT, rAddS, rLtS, rInS1, rNinS1, rIxS, rSlS, rStL, rCt, rSL, tApp, tPopAt, tPopL, tJoinL, tIndex, xFld, xSet, xMeth, xMake, rGetS, rGetI, rInDS, rInDI, xPutS, xPutI, xGet2S, xGet2I, xPopI, rDctD, rLstD, rCatT, HO.ins.injEq, ixN0, ixN1, ixN2, ixN3, atI0, atI1, atI2, atI3, eqV_str, eqV_int, eqV_is, eqV_si, inV_nil, inV_cons, flatV, List.all_cons, List.all_nil, wd_eq, wd_ne0, wd_ne0', List.getElem?_cons_zero, List.getElem?_cons_succ, List.set_cons_zero, List.set_cons_succ, List.cons_append, List.nil_append, List.append_nil, Nat.reduceAdd, Nat.reduceLT, Option.some.injEq, V.int.injEq, V.str.injEq, V.bl.injEq, V.ref.injEq, HO.lst.injEq, HO.tup.injEq, HO.dK.injEq, List.cons.injEq, exists_eq_left, exists_eq_left', exists_eq_right, exists_eq_right', exists_and_left, exists_and_right, exists_const, exists_eq, exists_eq', and_assoc, true_and, and_true, false_and, and_false, true_or, or_true, false_or, or_false, reduceCtorEq, not_true_eq_false, not_false_eq_true, decide_true, decide_false, decide_eq_true_eq, decide_not, Bool.not_true, Bool.not_false, Bool.false_eq_true, Bool.true_and, Bool.and_true, Bool.false_and, Bool.and_false, Bool.true_or, Bool.or_true, Bool.false_or, Bool.or_false, if_true, if_false, ite_true, ite_false, Nat.reduceEqDiff, exists_false, eq_self, upd_same, Bool.not_eq_true', decide_eq_false_iff_not, A1.at_]
    refine ⟨(by simp only [List.length_cons, List.length_nil]; decide), fun q H2 A2 => ?_⟩
    exact k _ _ _ A2.at_ (.cons ((hv0.tups A1.tu).tups A2.tu) .nil) (A1.fr.al A2)
  | name i =>
    have hv0 := hv
    simp only [Ex.d, tp_tup, tpl_cons, tpl_nil, tp_str, tp_int] at hv
    obtain ⟨a, xs, rfl, ha, _, r1, rfl, rfl, _, r2, rfl, rfl, rfl⟩ := hv
    simp only [tIfS, tRet, tRetN, tAsg, gName, gSub, gCons, gNil, gTup, tDrop, tNext, tVar, tC, tOp, tUn, tTest, tB, tAnd, tOr, tNot, tAndV, tOrV, tNotV, tIf, tCons, tNil, xLst, xTup, xDic, tCB, tCall, tChain, tSl, tPart, tNoPart, rI, rI0, rU, rEq, rNe, scal, rXL, rXT, rXQ, rLenL, rLenT, rLenS, rLenQ, rInt1, rTupL, rLstL, rIsN, rNotN, rInT, rAddS, rLtS, rInS1, rNinS1, rIxS, rSlS, rStL, rCt, rSL, tApp, tPopAt, tPopL, tJoinL, tIndex, xFld, xSet, xMeth, xMake, rGetS, rGetI, rInDS, rInDI, xPutS, xPutI, xGet2S, xGet2I, xPopI, rDctD, rLstD, rCatT, HO.ins.injEq, ixN0, ixN1, ixN2, ixN3, atI0, atI1, atI2, atI3, eqV_str, eqV_int, eqV_is, eqV_si, inV_nil, inV_cons, flatV, List.all_cons, List.all_nil, wd_eq, wd_ne0, wd_ne0', List.getElem?_cons_zero, List.getElem?_cons_succ, List.set_cons_zero, List.set_cons_succ, List.cons_append, List.nil_append, List.append_nil, Nat.reduceAdd, Nat.reduceLT, Option.some.injEq, V.int.injEq, V.str.injEq, V.bl.injEq, V.ref.injEq, HO.lst.injEq, HO.tup.injEq, HO.dK.injEq, List.cons.injEq, exists_eq_left, exists_eq_left', exists_eq_right, exists_eq_right', exists_and_left, exists_and_right, exists_const, exists_eq, exists_eq', and_assoc, true_and, and_true, false_and, and_false, true_or, or_true, false_or, or_false, reduceCtorEq, not_true_eq_false, not_false_eq_true, decide_true, decide_false, decide_eq_true_eq, decide_not, Bool.not_true, Bool.not_false, Bool.false_eq_true, Bool.true_and, Bool.and_true, Bool.false_and, Bool.and_false, Bool.true_or, Bool.or_true, Bool.false_or, Bool.or_false, if_true, if_false, ite_true, ite_false, Nat.reduceEqDiff, exists_false, eq_self, upd_same, Bool.not_eq_true', decide_eq_false_iff_not, ha]
    refine ⟨(by simp only [List.length_cons, List.length_nil]; decide), fun p H1 A1 => ?_⟩
    simp only [tIfS, tRet, tRetN, tAsg, gName, gSub, gCons, gNil, gTup, tDrop, tNext, tVar, tC, tOp, tUn, tTest, tB, tAnd, tOr, tNot, tAndV, tOrV, tNotV, tIf, tCons, tNil, xLst, xTup, xDic, tCB, tCall, tChain, tSl, tPart, tNoPart, rI, rI0, rU, rEq, rNe, scal, rXL, rXT, rXQ, rLenL, rLenT, rLenS, rLenQ, rInt1, rTupL, rLstL, rIsN, rNotN, rInT, rAddS, rLtS, rInS1, rNinS1, rIxS, rSlS, rStL, rCt, rSL, tApp, tPopAt, tPopL, tJoinL, tIndex, xFld, xSet, xMeth, xMake, rGetS, rGetI, rInDS, rInDI, xPutS, xPutI, xGet2S, xGet2I, xPopI, rDctD, rLstD, rCatT, HO.ins.injEq, ixN0, ixN1, ixN2, ixN3, atI0, atI1, atI2, atI3, eqV_str, eqV_int, eqV_is, eqV_si, inV_nil, inV_cons, flatV, List.all_cons, List.all_nil, wd_eq, wd_ne0, wd_ne0', List.getElem?_cons_zero, List.getElem?_cons_succ, List.set_cons_zero, List.set_cons_succ, List.cons_append, List.nil_append, List.append_nil, Nat.reduceAdd, Nat.reduceLT, Option.some.injEq, V.int.injEq, V.str.injEq, V.bl.injEq, V.ref.injEq, HO.lst.injEq, HO.tup.injEq, HO.dK.injEq, List.cons.injEq, exists_eq_left, exists_eq_left', exists_eq_right, exists_eq_right', exists_and_left, exists_and_right, exists_const, exists_eq, exists_eq', and_assoc, true_and, and_true, false_and, and_false, true_or, or_true, false_or, or_false, reduceCtorEq, not_true_eq_false, not_false_eq_true, decide_true, decide_false, decide_eq_true_eq, decide_not, Bool.not_true, Bool.not_false, Bool.false_eq_true, Bool.true_and, Bool.and_true, Bool.false_and, Bool.and_false, Bool.true_or, Bool.or_true, Bool.false_or, Bool.or_false, if_true, if_false, ite_true, ite_false, Nat.reduceEqDiff, exists_false, eq_self, upd_same, Bool.not_eq_true', decide_eq_false_iff_not, A1.at_]
    refine ⟨(by simp only [List.length_cons, List.length_nil]; decide), fun q H2 A2 => ?_⟩
    exact k _ _ _ A2.at_ (.cons ((hv0.tups A1.tu).tups A2.tu) .nil) (A1.fr.al A2)
  | op s e1 e2 =>
    simp only [Ex.d, tp_tup, tpl_cons, tpl_nil, tp_str, tp_int] at hv
    obtain ⟨a, xs, rfl, ha, _, r1, rfl, rfl, v1, r2, rfl, t1, v2, r3, rfl, t2, rfl⟩ := hv
    simp only [Ex.dep] at hd hd'
    simp only [tIfS, tRet, tRetN, tAsg, gName, gSub, gCons, gNil, gTup, tDrop, tNext, tVar, tC, tOp, tUn, tTest, tB, tAnd, tOr, tNot, tAndV, tOrV, tNotV, tIf, tCons, tNil, xLst, xTup, xDic, tCB, tCall, tChain, tSl, tPart, tNoPart, rI, rI0, rU, rEq, rNe, scal, rXL, rXT, rXQ, rLenL, rLenT, rLenS, rLenQ, rInt1, rTupL, rLstL, rIsN, rNotN, rInT, rAddS, rLtS, rInS1, rNinS1, rIxS, rSlS, rStL, rCt, rSL, tApp, tPopAt, tPopL, tJoinL, tIndex, xFld, xSet, xMeth, xMake, rGetS, rGetI, rInDS, rInDI, xPutS, xPutI, xGet2S, xGet2I, xPopI, rDctD, rLstD, rCatT, HO.ins.injEq, ixN0, ixN1, ixN2, ixN3, atI0, atI1, atI2, atI3, eqV_str, eqV_int, eqV_is, eqV_si, inV_nil, inV_cons, flatV, List.all_cons, List.all_nil, wd_eq, wd_ne0, wd_ne0', List.getElem?_cons_zero, List.getElem?_cons_succ, List.set_cons_zero, List.set_cons_succ, List.cons_append, List.nil_append, List.append_nil, Nat.reduceAdd, Nat.reduceLT, Option.some.injEq, V.int.injEq, V.str.injEq, V.bl.injEq, V.ref.injEq, HO.lst.injEq, HO.tup.injEq, HO.dK.injEq, List.cons.injEq, exists_eq_left, exists_eq_left', exists_eq_right, exists_eq_right', exists_and_left, exists_and_right, exists_const, exists_eq, exists_eq', and_assoc, true_and, and_true, false_and, and_false, true_or, or_true, false_or, or_false, reduceCtorEq, not_true_eq_false, not_false_eq_true, decide_true, decide_false, decide_eq_true_eq, decide_not, Bool.not_true, Bool.not_false, Bool.false_eq_true, Bool.true_and, Bool.and_true, Bool.false_and, Bool.and_false, Bool.true_or, Bool.or_true, Bool.false_or, Bool.or_false, if_true, if_false, ite_true, ite_false, Nat.reduceEqDiff, exists_false, eq_self, upd_same, Bool.not_eq_true', decide_eq_false_iff_not, ha]
    refine ⟨(by simp only [List.length_cons, List.length_nil]; decide), fun p H1 A1 => ?_⟩
    simp only [tIfS, tRet, tRetN, tAsg, gName, gSub, gCons, gNil, gTup, tDrop, tNext, tVar, tC, tOp, tUn, tTest, tB, tAnd, tOr, tNot, tAndV, tOrV, tNotV, tIf, tCons, tNil, xLst, xTup, xDic, tCB, tCall, tChain, tSl, tPart, tNoPart, rI, rI0, rU, rEq, rNe, scal, rXL, rXT, rXQ, rLenL, rLenT, rLenS, rLenQ, rInt1, rTupL, rLstL, rIsN, rNotN, rInT, rAddS, rLtS, rInS1, rNinS1, rIxS, rSlS, rStL, rCt, rSL, tApp, tPopAt, tPopL, tJoinL, tIndex, xFld, xSet, xMeth, xMake, rGetS, rGetI, rInDS, rInDI, xPutS, xPutI, xGet2S, xGet2I, xPopI, rDctD, rLstD, rCatT, HO.ins.injEq, ixN0, ixN1, ixN2, ixN3, atI0, atI1, atI2, atI3, eqV_str, eqV_int, eqV_is, eqV_si, inV_nil, inV_cons, flatV, List.all_cons, List.all_nil, wd_eq, wd_ne0, wd_ne0', List.getElem?_cons_zero, List.getElem?_cons_succ, List.set_cons_zero, List.set_cons_succ, List.cons_append, List.nil_append, List.append_nil, Nat.reduceAdd, Nat.reduceLT, Option.some.injEq, V.int.injEq, V.str.injEq, V.bl.injEq, V.ref.injEq, HO.lst.injEq, HO.tup.injEq, HO.dK.injEq, List.cons.injEq, exists_eq_left, exists_eq_left', exists_eq_right, exists_eq_right', exists_and_left, exists_and_right, exists_const, exists_eq, exists_eq', and_assoc, true_and, and_true, false_and, and_false, true_or, or_true, false_or, or_false, reduceCtorEq, not_true_eq_false, not_false_eq_true, decide_true, decide_false, decide_eq_true_eq, decide_not, Bool.not_true, Bool.not_false, Bool.false_eq_true, Bool.true_and, Bool.and_true, Bool.false_and, Bool.and_false, Bool.true_or, Bool.or_true, Bool.false_or, Bool.or_false, if_true, if_false, ite_true, ite_false, Nat.reduceEqDiff, exists_false, eq_self, upd_same, Bool.not_eq_true', decide_eq_false_iff_not, A1.at_, sg_ne s (i := 0) (by decide), sg_ne s (i := 1) (by decide), sg_ne s (i := 2) (by decide), A1.k ha]
    refine ⟨v1, e1, rfl, t1.tups A1.tu, by omega, by omega, fun b xs H2 hb tb f2 => ?_⟩
    simp only [tIfS, tRet, tRetN, tAsg, gName, gSub, gCons, gNil, gTup, tDrop, tNext, tVar, tC, tOp, tUn, tTest, tB, tAnd, tOr, tNot, tAndV, tOrV, tNotV, tIf, tCons, tNil, xLst, xTup, xDic, tCB, tCall, tChain, tSl, tPart, tNoPart, rI, rI0, rU, rEq, rNe, scal, rXL, rXT, rXQ, rLenL, rLenT, rLenS, rLenQ, rInt1, rTupL, rLstL, rIsN, rNotN, rInT, rAddS, rLtS, rInS1, rNinS1, rIxS, rSlS, rStL, rCt, rSL, tApp, tPopAt, tPopL, tJoinL, tIndex, xFld, xSet, xMeth, xMake, rGetS, rGetI, rInDS, rInDI, xPutS, xPutI, xGet2S, xGet2I, xPopI, rDctD, rLstD, rCatT, HO.ins.injEq, ixN0, ixN1, ixN2, ixN3, atI0, atI1, atI2, atI3, eqV_str, eqV_int, eqV_is, eqV_si, inV_nil, inV_cons, flatV, List.all_cons, List.all_nil, wd_eq, wd_ne0, wd_ne0', List.getElem?_cons_zero, List.getElem?_cons_succ, List.set_cons_zero, List.set_cons_succ, List.cons_append, List.nil_append, List.append_nil, Nat.reduceAdd, Nat.reduceLT, Option.some.injEq, V.int.injEq, V.str.injEq, V.bl.injEq, V.ref.injEq, HO.lst.injEq, HO.tup.injEq, HO.dK.injEq, List.cons.injEq, exists_eq_left, exists_eq_left', exists_eq_right, exists_eq_right', exists_and_left, exists_and_right, exists_const, exists_eq, exists_eq', and_assoc, true_and, and_true, false_and, and_false, true_or, or_true, false_or, or_false, reduceCtorEq, not_true_eq_false, not_false_eq_true, decide_true, decide_false, decide_eq_true_eq, decide_not, Bool.not_true, Bool.not_false, Bool.false_eq_true, Bool.true_and, Bool.and_true, Bool.false_and, Bool.and_false, Bool.true_or, Bool.or_true, Bool.false_or, Bool.or_false, if_true, if_false, ite_true, ite_false, Nat.reduceEqDiff, exists_false, eq_self, upd_same, Bool.not_eq_true', decide_eq_false_iff_not, f2.tu _ _ (A1.k ha)]
    refine ⟨v2, e2, rfl, (t2.tups A1.tu).tups f2.tu, by omega, by omega, fun c ys H3 hc tc f3 => ?_⟩
    simp only [tIfS, tRet, tRetN, tAsg, gName, gSub, gCons, gNil, gTup, tDrop, tNext, tVar, tC, tOp, tUn, tTest, tB, tAnd, tOr, tNot, tAndV, tOrV, tNotV, tIf, tCons, tNil, xLst, xTup, xDic, tCB, tCall, tChain, tSl, tPart, tNoPart, rI, rI0, rU, rEq, rNe, scal, rXL, rXT, rXQ, rLenL, rLenT, rLenS, rLenQ, rInt1, rTupL, rLstL, rIsN, rNotN, rInT, rAddS, rLtS, rInS1, rNinS1, rIxS, rSlS, rStL, rCt, rSL, tApp, tPopAt, tPopL, tJoinL, tIndex, xFld, xSet, xMeth, xMake, rGetS, rGetI, rInDS, rInDI, xPutS, xPutI, xGet2S, xGet2I, xPopI, rDctD, rLstD, rCatT, HO.ins.injEq, ixN0, ixN1, ixN2, ixN3, atI0, atI1, atI2, atI3, eqV_str, eqV_int, eqV_is, eqV_si, inV_nil, inV_cons, flatV, List.all_cons, List.all_nil, wd_eq, wd_ne0, wd_ne0', List.getElem?_cons_zero, List.getElem?_cons_succ, List.set_cons_zero, List.set_cons_succ, List.cons_append, List.nil_append, List.append_nil, Nat.reduceAdd, Nat.reduceLT, Option.some.injEq, V.int.injEq, V.str.injEq, V.bl.injEq, V.ref.injEq, HO.lst.injEq, HO.tup.injEq, HO.dK.injEq, List.cons.injEq, exists_eq_left, exists_eq_left', exists_eq_right, exists_eq_right', exists_and_left, exists_and_right, exists_const, exists_eq, exists_eq', and_assoc, true_and, and_true, false_and, and_false, true_or, or_true, false_or, or_false, reduceCtorEq, not_true_eq_false, not_false_eq_true, decide_true, decide_false, decide_eq_true_eq, decide_not, Bool.not_true, Bool.not_false, Bool.false_eq_true, Bool.true_and, Bool.and_true, Bool.false_and, Bool.and_false, Bool.true_or, Bool.or_true, Bool.false_or, Bool.or_false, if_true, if_false, ite_true, ite_false, Nat.reduceEqDiff, exists_false, eq_self, upd_same, Bool.not_eq_true', decide_eq_false_iff_not, f3.keep _ _ hb (by simp), hc]
    have l1 : xs.length ≤ 1024 := by rw [tb.length, List.length_map]; exact Ex.len10 (by omega)
    have l2 : ys.length ≤ 1024 := by rw [tc.length, List.length_map]; exact Ex.len10 (by omega)
    refine ⟨big (by omega), fun p4 H4 A4 => ?_⟩
    simp only [tIfS, tRet, tRetN, tAsg, gName, gSub, gCons, gNil, gTup, tDrop, tNext, tVar, tC, tOp, tUn, tTest, tB, tAnd, tOr, tNot, tAndV, tOrV, tNotV, tIf, tCons, tNil, xLst, xTup, xDic, tCB, tCall, tChain, tSl, tPart, tNoPart, rI, rI0, rU, rEq, rNe, scal, rXL, rXT, rXQ, rLenL, rLenT, rLenS, rLenQ, rInt1, rTupL, rLstL, rIsN, rNotN, rInT, rAddS, rLtS, rInS1, rNinS1, rIxS, rSlS, rStL, rCt, rSL, tApp, tPopAt, tPopL, tJoinL, tIndex, xFld, xSet, xMeth, xMake, rGetS, rGetI, rInDS, rInDI, xPutS, xPutI, xGet2S, xGet2I, xPopI, rDctD, rLstD, rCatT, HO.ins.injEq, ixN0, ixN1, ixN2, ixN3, atI0, atI1, atI2, atI3, eqV_str, eqV_int, eqV_is, eqV_si, inV_nil, inV_cons, flatV, List.all_cons, List.all_nil, wd_eq, wd_ne0, wd_ne0', List.getElem?_cons_zero, List.getElem?_cons_succ, List.set_cons_zero, List.set_cons_succ, List.cons_append, List.nil_append, List.append_nil, Nat.reduceAdd, Nat.reduceLT, Option.some.injEq, V.int.injEq, V.str.injEq, V.bl.injEq, V.ref.injEq, HO.lst.injEq, HO.tup.injEq, HO.dK.injEq, List.cons.injEq, exists_eq_left, exists_eq_left', exists_eq_right, exists_eq_right', exists_and_left, exists_and_right, exists_const, exists_eq, exists_eq', and_assoc, true_and, and_true, false_and, and_false, true_or, or_true, false_or, or_false, reduceCtorEq, not_true_eq_false, not_false_eq_true, decide_true, decide_false, decide_eq_true_eq, decide_not, Bool.not_true, Bool.not_false, Bool.false_eq_true, Bool.true_and, Bool.and_true, Bool.false_and, Bool.and_false, Bool.true_or, Bool.or_true, Bool.false_or, Bool.or_false, if_true, if_false, ite_true, ite_false, Nat.reduceEqDiff, exists_false, eq_self, upd_same, Bool.not_eq_true', decide_eq_false_iff_not, A4.k (f3.tu _ _ (f2.tu _ _ (A1.k ha)))]
    refine ⟨(by simp only [List.length_cons, List.length_nil]; decide), fun p5 H5 A5 => ⟨(by simp only [List.length_cons, List.length_nil]; decide), fun p6 H6 A6 => ?_⟩⟩
    simp only [tIfS, tRet, tRetN, tAsg, gName, gSub, gCons, gNil, gTup, tDrop, tNext, tVar, tC, tOp, tUn, tTest, tB, tAnd, tOr, tNot, tAndV, tOrV, tNotV, tIf, tCons, tNil, xLst, xTup, xDic, tCB, tCall, tChain, tSl, tPart, tNoPart, rI, rI0, rU, rEq, rNe, scal, rXL, rXT, rXQ, rLenL, rLenT, rLenS, rLenQ, rInt1, rTupL, rLstL, rIsN, rNotN, rInT, rAddS, rLtS, rInS1, rNinS1, rIxS, rSlS, rStL, rCt, rSL, tApp, tPopAt, tPopL, tJoinL, tIndex, xFld, xSet, xMeth, xMake, rGetS, rGetI, rInDS, rInDI, xPutS, xPutI, xGet2S, xGet2I, xPopI, rDctD, rLstD, rCatT, HO.ins.injEq, ixN0, ixN1, ixN2, ixN3, atI0, atI1, atI2, atI3, eqV_str, eqV_int, eqV_is, eqV_si, inV_nil, inV_cons, flatV, List.all_cons, List.all_nil, wd_eq, wd_ne0, wd_ne0', List.getElem?_cons_zero, List.getElem?_cons_succ, List.set_cons_zero, List.set_cons_succ, List.cons_append, List.nil_append, List.append_nil, Nat.reduceAdd, Nat.reduceLT, Option.some.injEq, V.int.injEq, V.str.injEq, V.bl.injEq, V.ref.injEq, HO.lst.injEq, HO.tup.injEq, HO.dK.injEq, List.cons.injEq, exists_eq_left, exists_eq_left', exists_eq_right, exists_eq_right', exists_and_left, exists_and_right, exists_const, exists_eq, exists_eq', and_assoc, true_and, and_true, false_and, and_false, true_or, or_true, false_or, or_false, reduceCtorEq, not_true_eq_false, not_false_eq_true, decide_true, decide_false, decide_eq_true_eq, decide_not, Bool.not_true, Bool.not_false, Bool.false_eq_true, Bool.true_and, Bool.and_true, Bool.false_and, Bool.and_false, Bool.true_or, Bool.or_true, Bool.false_or, Bool.or_false, if_true, if_false, ite_true, ite_false, Nat.reduceEqDiff, exists_false, eq_self, upd_same, Bool.not_eq_true', decide_eq_false_iff_not, A6.at_, A6.k (A5.k A4.at_)]
    refine ⟨big (by simp only [List.length_append, List.length_cons, List.length_nil]; omega), fun p7 H7 A7 => ?_⟩
    refine k _ _ _ A7.at_ ?_ ((((((A1.fr.trans f2).trans f3).al A4).al A5).al A6).al A7)
    have W : Tups H3 H7 := ((A4.tu.trans A5.tu).trans A6.tu).trans A7.tu
    simp only [Ex.code, List.map_append, List.map_cons, List.map_nil]
    exact TpL.append (TpL.append (tb.tups (f3.tu.trans W)) (tc.tups W)) (.cons (.tup (A7.k (A6.k A5.at_)) (.cons (.str _) .nil)) .nil)
theorem tp_row {H : Hp} {l : List Sm} {v : V} (h : Tp H (rowD l) v) : ∃ a a2 ys, v = .ref a ∧ H a = some (.tup [.str (wd 13), .ref a2]) ∧ H a2 = some (.tup ys) ∧ TpL H (l.map Sm.d) ys := by
  unfold rowD at h
  simp only [tp_tup, tpl_cons, tpl_nil, tp_str] at h
  obtain ⟨a, xs, rfl, ha, _, r1, rfl, rfl, v2, r2, rfl, ⟨a2, ys, rfl, ha2, hy⟩, rfl⟩ := h
  rw [dL_map] at hy
  exact ⟨a, a2, ys, rfl, ha, ha2, hy⟩
theorem tp_say {H : Hp} {e : Ex} {v : V} (h : Tp H (Sm.say e).d v) : ∃ a ve, v = .ref a ∧ H a = some (.tup [.str (wd 7), ve]) ∧ Tp H e.d ve := by
  simp only [Sm.d, tp_tup, tpl_cons, tpl_nil, tp_str] at h
  obtain ⟨a, xs, rfl, ha, _, r1, rfl, rfl, v1, r2, rfl, t1, rfl⟩ := h
  exact ⟨a, v1, rfl, ha, t1⟩
theorem tp_set {H : Hp} {x : Str} {e : Ex} {v : V} (h : Tp H (Sm.set x e).d v) : ∃ a ve, v = .ref a ∧ H a = some (.tup [.str (wd 8), .str x, ve]) ∧ Tp H e.d ve := by
  simp only [Sm.d, tp_tup, tpl_cons, tpl_nil, tp_str] at h
  obtain ⟨a, xs, rfl, ha, _, r1, rfl, rfl, _, r2, rfl, rfl, v1, r3, rfl, t1, rfl⟩ := h
  exact ⟨a, v1, rfl, ha, t1⟩
theorem tp_ite {H : Hp} {e : Ex} {s t : List Sm} {v : V} (h : Tp H (Sm.ite e s t).d v) : ∃ a ve vs vt, v = .ref a ∧ H a = some (.tup [.str (wd 14), ve, vs, vt]) ∧ Tp H e.d ve ∧ Tp H (rowD s) vs ∧ Tp H (rowD t) vt := by
  have h' : Tp H (.tuple [.str (wd 14), e.d, rowD s, rowD t]) v := by simpa only [Sm.d, rowD] using h
  rw [tp_tup] at h'
  simp only [tpl_cons, tpl_nil, tp_str] at h'
  obtain ⟨a, xs, rfl, ha, _, r1, rfl, rfl, v1, r2, rfl, t1, v2, r3, rfl, t2, v3, r4, rfl, t3, rfl⟩ := h'
  exact ⟨a, v1, v2, v3, rfl, ha, t1, t2, t3⟩
theorem tp_whl {H : Hp} {e : Ex} {s : List Sm} {v : V} (h : Tp H (Sm.whl e s).d v) : ∃ a ve vs, v = .ref a ∧ H a = some (.tup [.str (wd 15), ve, vs]) ∧ Tp H e.d ve ∧ Tp H (rowD s) vs := by
  have h' : Tp H (.tuple [.str (wd 15), e.d, rowD s]) v := by simpa only [Sm.d, rowD] using h
  rw [tp_tup] at h'
  simp only [tpl_cons, tpl_nil, tp_str] at h'
  obtain ⟨a, xs, rfl, ha, _, r1, rfl, rfl, v1, r2, rfl, t1, v2, r3, rfl, t2, rfl⟩ := h'
  exact ⟨a, v1, v2, rfl, ha, t1, t2⟩
theorem take_snoc {α : Type} {l : List α} {i : Nat} {s : α} (h : l[i]? = some s) : l.take (i + 1) = l.take i ++ [s] := by rw [List.take_succ, h]; rfl
theorem codeL_snoc (l : List Sm) (s : Sm) (b : Nat) : codeL (l ++ [s]) b = codeL l b ++ s.code (b + (codeL l b).length) := by rw [codeL_append]; simp [codeL]
theorem map_get {α β : Type} {f : α → β} {l : List α} {i : Nat} {y : β} (h : (l.map f)[i]? = some y) : ∃ x, l[i]? = some x ∧ f x = y := by
  rw [List.getElem?_map] at h
  cases e : l[i]? with
  | none => rw [e] at h; cases h
  | some x => rw [e] at h; exact ⟨x, rfl, Option.some.inj h⟩
theorem code_bound {o : Un} {b : Nat} (h : o.ok 5) (hc : o.cnt ≤ 20000) : (o.code b).length ≤ 700000 := by
  have := o.len_le b h
  have h2 : (2 ^ 5 + 3) * o.cnt ≤ 35 * 20000 := Nat.mul_le_mul (by decide) hc
  omega
theorem mem_of_get {α : Type} {l : List α} {i : Nat} {x : α} (h : l[i]? = some x) : x ∈ l := List.mem_of_getElem? h
theorem cnt_mem : ∀ {l : List Sm} {s : Sm}, s ∈ l → s.cnt ≤ cntL l
  | _ :: _, _, .head _ => by simp only [cntL]; omega
  | _ :: _, _, .tail _ h' => by have := cnt_mem h'; simp only [cntL]; omega
/-- the rows of a row -/
def CodeInv (b : Nat) (l : List Sm) (H : Hp) (w : V) (v0 : V) (i : Nat) (σ : L2.St) (H' : Hp) : Prop := ∃ (r : Addr) (xs : List V) (σ4 : Option V), σ = [some v0, some (.int b), some w, some (.ref r), σ4, none, none, none, none, none, none] ∧
  H' r = some (.lst xs) ∧ TpL H' ((codeL (l.take i) b).map Rw.d) xs ∧ Fr [] H H'
theorem rd_L_code {K : PySem.W.Frag} {n : Nat} {vs : List V} {H : Hp} {Q : VK} {E : XK} (h : sp_L_code (n + 1) vs H Q E) : t_L_code K n { nx := fun _ H' => Q .non H', rt := Q } (start ["_", "_", "_", "_", "_", "_", "_", "_", "_", "_", "_"] vs) H := by
  obtain ⟨v, b, o, rfl, hv, hd, ok, hc, k⟩ := h
  show t_L_code K n _ [some v, some (.int b), none, none, none, none, none, none, none, none, none] H
  unfold t_L_code; refine st_seq ?_
  cases o with
  | row l =>
    obtain ⟨a, a2, ys, rfl, ha, ha2, hy⟩ := tp_row hv
    simp only [tIfS, tRet, tRetN, tAsg, gName, gSub, gCons, gNil, gTup, tDrop, tNext, tVar, tC, tOp, tUn, tTest, tB, tAnd, tOr, tNot, tAndV, tOrV, tNotV, tIf, tCons, tNil, xLst, xTup, xDic, tCB, tCall, tChain, tSl, tPart, tNoPart, rI, rI0, rU, rEq, rNe, scal, rXL, rXT, rXQ, rLenL, rLenT, rLenS, rLenQ, rInt1, rTupL, rLstL, rIsN, rNotN, rInT, rAddS, rLtS, rInS1, rNinS1, rIxS, rSlS, rStL, rCt, rSL, tApp, tPopAt, tPopL, tJoinL, tIndex, xFld, xSet, xMeth, xMake, rGetS, rGetI, rInDS, rInDI, xPutS, xPutI, xGet2S, xGet2I, xPopI, rDctD, rLstD, rCatT, HO.ins.injEq, ixN0, ixN1, ixN2, ixN3, atI0, atI1, atI2, atI3, eqV_str, eqV_int, eqV_is, eqV_si, inV_nil, inV_cons, flatV, List.all_cons, List.all_nil, wd_eq, wd_ne0, wd_ne0', List.getElem?_cons_zero, List.getElem?_cons_succ, List.set_cons_zero, List.set_cons_succ, List.cons_append, List.nil_append, List.append_nil, Nat.reduceAdd, Nat.reduceLT, Option.some.injEq, V.int.injEq, V.str.injEq, V.bl.injEq, V.ref.injEq, HO.lst.injEq, HO.tup.injEq, HO.dK.injEq, List.cons.injEq, exists_eq_left, exists_eq_left', exists_eq_right, exists_eq_right', exists_and_left, exists_and_right, exists_const, exists_eq, exists_eq', and_assoc, true_and, and_true, false_and, and_false, true_or, or_true, false_or, or_false, reduceCtorEq, not_true_eq_false, not_false_eq_true, decide_true, decide_false, decide_eq_true_eq, decide_not, Bool.not_true, Bool.not_false, Bool.false_eq_true, Bool.true_and, Bool.and_true, Bool.false_and, Bool.and_false, Bool.true_or, Bool.or_true, Bool.false_or, Bool.or_false, if_true, if_false, ite_true, ite_false, Nat.reduceEqDiff, exists_false, eq_self, upd_same, Bool.not_eq_true', decide_eq_false_iff_not, ha]
    unfold t_L_code_1; refine st_seq ?_
    simp only [tIfS, tRet, tRetN, tAsg, gName, gSub, gCons, gNil, gTup, tDrop, tNext, tVar, tC, tOp, tUn, tTest, tB, tAnd, tOr, tNot, tAndV, tOrV, tNotV, tIf, tCons, tNil, xLst, xTup, xDic, tCB, tCall, tChain, tSl, tPart, tNoPart, rI, rI0, rU, rEq, rNe, scal, rXL, rXT, rXQ, rLenL, rLenT, rLenS, rLenQ, rInt1, rTupL, rLstL, rIsN, rNotN, rInT, rAddS, rLtS, rInS1, rNinS1, rIxS, rSlS, rStL, rCt, rSL, tApp, tPopAt, tPopL, tJoinL, tIndex, xFld, xSet, xMeth, xMake, rGetS, rGetI, rInDS, rInDI, xPutS, xPutI, xGet2S, xGet2I, xPopI, rDctD, rLstD, rCatT, HO.ins.injEq, ixN0, ixN1, ixN2, ixN3, atI0, atI1, atI2, atI3, eqV_str, eqV_int, eqV_is, eqV_si, inV_nil, inV_cons, flatV, List.all_cons, List.all_nil, wd_eq, wd_ne0, wd_ne0', List.getElem?_cons_zero, List.getElem?_cons_succ, List.set_cons_zero, List.set_cons_succ, List.cons_append, List.nil_append, List.append_nil, Nat.reduceAdd, Nat.reduceLT, Option.some.injEq, V.int.injEq, V.str.injEq, V.bl.injEq, V.ref.injEq, HO.lst.injEq, HO.tup.injEq, HO.dK.injEq, List.cons.injEq, exists_eq_left, exists_eq_left', exists_eq_right, exists_eq_right', exists_and_left, exists_and_right, exists_const, exists_eq, exists_eq', and_assoc, true_and, and_true, false_and, and_false, true_or, or_true, false_or, or_false, reduceCtorEq, not_true_eq_false, not_false_eq_true, decide_true, decide_false, decide_eq_true_eq, decide_not, Bool.not_true, Bool.not_false, Bool.false_eq_true, Bool.true_and, Bool.and_true, Bool.false_and, Bool.and_false, Bool.true_or, Bool.or_true, Bool.false_or, Bool.or_false, if_true, if_false, ite_true, ite_false, Nat.reduceEqDiff, exists_false, eq_self, upd_same, Bool.not_eq_true', decide_eq_false_iff_not]
    refine st_seq ?_
    simp only [tIfS, tRet, tRetN, tAsg, gName, gSub, gCons, gNil, gTup, tDrop, tNext, tVar, tC, tOp, tUn, tTest, tB, tAnd, tOr, tNot, tAndV, tOrV, tNotV, tIf, tCons, tNil, xLst, xTup, xDic, tCB, tCall, tChain, tSl, tPart, tNoPart, rI, rI0, rU, rEq, rNe, scal, rXL, rXT, rXQ, rLenL, rLenT, rLenS, rLenQ, rInt1, rTupL, rLstL, rIsN, rNotN, rInT, rAddS, rLtS, rInS1, rNinS1, rIxS, rSlS, rStL, rCt, rSL, tApp, tPopAt, tPopL, tJoinL, tIndex, xFld, xSet, xMeth, xMake, rGetS, rGetI, rInDS, rInDI, xPutS, xPutI, xGet2S, xGet2I, xPopI, rDctD, rLstD, rCatT, HO.ins.injEq, ixN0, ixN1, ixN2, ixN3, atI0, atI1, atI2, atI3, eqV_str, eqV_int, eqV_is, eqV_si, inV_nil, inV_cons, flatV, List.all_cons, List.all_nil, wd_eq, wd_ne0, wd_ne0', List.getElem?_cons_zero, List.getElem?_cons_succ, List.set_cons_zero, List.set_cons_succ, List.cons_append, List.nil_append, List.append_nil, Nat.reduceAdd, Nat.reduceLT, Option.some.injEq, V.int.injEq, V.str.injEq, V.bl.injEq, V.ref.injEq, HO.lst.injEq, HO.tup.injEq, HO.dK.injEq, List.cons.injEq, exists_eq_left, exists_eq_left', exists_eq_right, exists_eq_right', exists_and_left, exists_and_right, exists_const, exists_eq, exists_eq', and_assoc, true_and, and_true, false_and, and_false, true_or, or_true, false_or, or_false, reduceCtorEq, not_true_eq_false, not_false_eq_true, decide_true, decide_false, decide_eq_true_eq, decide_not, Bool.not_true, Bool.not_false, Bool.false_eq_true, Bool.true_and, Bool.and_true, Bool.false_and, Bool.and_false, Bool.true_or, Bool.or_true, Bool.false_or, Bool.or_false, if_true, if_false, ite_true, ite_false, Nat.reduceEqDiff, exists_false, eq_self, upd_same, Bool.not_eq_true', decide_eq_false_iff_not]
    refine ⟨(by simp only [List.length_cons, List.length_nil]; decide), fun p H1 A1 => ?_⟩
    refine st_seq (forT (a := a2) (xs := ys) (fun R h => by simp only [tIfS, tRet, tRetN, tAsg, gName, gSub, gCons, gNil, gTup, tDrop, tNext, tVar, tC, tOp, tUn, tTest, tB, tAnd, tOr, tNot, tAndV, tOrV, tNotV, tIf, tCons, tNil, xLst, xTup, xDic, tCB, tCall, tChain, tSl, tPart, tNoPart, rI, rI0, rU, rEq, rNe, scal, rXL, rXT, rXQ, rLenL, rLenT, rLenS, rLenQ, rInt1, rTupL, rLstL, rIsN, rNotN, rInT, rAddS, rLtS, rInS1, rNinS1, rIxS, rSlS, rStL, rCt, rSL, tApp, tPopAt, tPopL, tJoinL, tIndex, xFld, xSet, xMeth, xMake, rGetS, rGetI, rInDS, rInDI, xPutS, xPutI, xGet2S, xGet2I, xPopI, rDctD, rLstD, rCatT, HO.ins.injEq, ixN0, ixN1, ixN2, ixN3, atI0, atI1, atI2, atI3, eqV_str, eqV_int, eqV_is, eqV_si, inV_nil, inV_cons, flatV, List.all_cons, List.all_nil, wd_eq, wd_ne0, wd_ne0', List.getElem?_cons_zero, List.getElem?_cons_succ, List.set_cons_zero, List.set_cons_succ, List.cons_append, List.nil_append, List.append_nil, Nat.reduceAdd, Nat.reduceLT, Option.some.injEq, V.int.injEq, V.str.injEq, V.bl.injEq, V.ref.injEq, HO.lst.injEq, HO.tup.injEq, HO.dK.injEq, List.cons.injEq, exists_eq_left, exists_eq_left', exists_eq_right, exists_eq_right', exists_and_left, exists_and_right, exists_const, exists_eq, exists_eq', and_assoc, true_and, and_true, false_and, and_false, true_or, or_true, false_or, or_false, reduceCtorEq, not_true_eq_false, not_false_eq_true, decide_true, decide_false, decide_eq_true_eq, decide_not, Bool.not_true, Bool.not_false, Bool.false_eq_true, Bool.true_and, Bool.and_true, Bool.false_and, Bool.and_false, Bool.true_or, Bool.or_true, Bool.false_or, Bool.or_false, if_true, if_false, ite_true, ite_false, Nat.reduceEqDiff, exists_false, eq_self, upd_same, Bool.not_eq_true', decide_eq_false_iff_not, A1.k ha]; exact h) (A1.k ha2) (CodeInv b l H1 (.str (wd 13)) (.ref a)) ⟨p, [], none, rfl, A1.at_, by simp only [List.take_zero, codeL, List.map_nil]; exact .nil, .refl _ _⟩ ?_ ?_ ?_)
    · rintro i σ' H' ⟨r, xs, σ4, rfl, h1, h2, f⟩
      exact f.tu _ _ (A1.k ha2)
    · rintro i x σ' H' hx ⟨r, xs, σ4, rfl, h1, h2, f⟩
      obtain ⟨d, hd1, hd2⟩ := hy.get' hx
      obtain ⟨s, hs, rfl⟩ := map_get hd1
      have ms := mem_of_get hs
      have d1 := dpL_mem ms
      have c1 := cnt_mem ms
      have hlen : xs.length = (codeL (l.take i) b).length := by rw [h2.length, List.length_map]
      have lb : xs.length ≤ 700000 := by
        rw [hlen]
        exact code_bound (o := .row (l.take i)) (okL_take l i ok) (Nat.le_trans (cntL_take l i) hc)
      show tAsg _ _ _ [some (.ref a), some (.int b), some (.str (wd 13)), some (.ref r), some x, none, none, none, none, none, none] H'
      simp only [tIfS, tRet, tRetN, tAsg, gName, gSub, gCons, gNil, gTup, tDrop, tNext, tVar, tC, tOp, tUn, tTest, tB, tAnd, tOr, tNot, tAndV, tOrV, tNotV, tIf, tCons, tNil, xLst, xTup, xDic, tCB, tCall, tChain, tSl, tPart, tNoPart, rI, rI0, rU, rEq, rNe, scal, rXL, rXT, rXQ, rLenL, rLenT, rLenS, rLenQ, rInt1, rTupL, rLstL, rIsN, rNotN, rInT, rAddS, rLtS, rInS1, rNinS1, rIxS, rSlS, rStL, rCt, rSL, tApp, tPopAt, tPopL, tJoinL, tIndex, xFld, xSet, xMeth, xMake, rGetS, rGetI, rInDS, rInDI, xPutS, xPutI, xGet2S, xGet2I, xPopI, rDctD, rLstD, rCatT, HO.ins.injEq, ixN0, ixN1, ixN2, ixN3, atI0, atI1, atI2, atI3, eqV_str, eqV_int, eqV_is, eqV_si, inV_nil, inV_cons, flatV, List.all_cons, List.all_nil, wd_eq, wd_ne0, wd_ne0', List.getElem?_cons_zero, List.getElem?_cons_succ, List.set_cons_zero, List.set_cons_succ, List.cons_append, List.nil_append, List.append_nil, Nat.reduceAdd, Nat.reduceLT, Option.some.injEq, V.int.injEq, V.str.injEq, V.bl.injEq, V.ref.injEq, HO.lst.injEq, HO.tup.injEq, HO.dK.injEq, List.cons.injEq, exists_eq_left, exists_eq_left', exists_eq_right, exists_eq_right', exists_and_left, exists_and_right, exists_const, exists_eq, exists_eq', and_assoc, true_and, and_true, false_and, and_false, true_or, or_true, false_or, or_false, reduceCtorEq, not_true_eq_false, not_false_eq_true, decide_true, decide_false, decide_eq_true_eq, decide_not, Bool.not_true, Bool.not_false, Bool.false_eq_true, Bool.true_and, Bool.and_true, Bool.false_and, Bool.and_false, Bool.true_or, Bool.or_true, Bool.false_or, Bool.or_false, if_true, if_false, ite_true, ite_false, Nat.reduceEqDiff, exists_false, eq_self, upd_same, Bool.not_eq_true', decide_eq_false_iff_not, h1]
      have ok1 := okL_mem ok ms
      refine ⟨x, b + xs.length, .st s, by rw [Int.natCast_add], (hd2.tups A1.tu).tups f.tu, by simp only [Un.dp] at hd ⊢; omega, ok1, by simp only [Un.cnt] at hc ⊢; omega, fun q zs H2 hq tq f2 => ?_⟩
      simp only [tIfS, tRet, tRetN, tAsg, gName, gSub, gCons, gNil, gTup, tDrop, tNext, tVar, tC, tOp, tUn, tTest, tB, tAnd, tOr, tNot, tAndV, tOrV, tNotV, tIf, tCons, tNil, xLst, xTup, xDic, tCB, tCall, tChain, tSl, tPart, tNoPart, rI, rI0, rU, rEq, rNe, scal, rXL, rXT, rXQ, rLenL, rLenT, rLenS, rLenQ, rInt1, rTupL, rLstL, rIsN, rNotN, rInT, rAddS, rLtS, rInS1, rNinS1, rIxS, rSlS, rStL, rCt, rSL, tApp, tPopAt, tPopL, tJoinL, tIndex, xFld, xSet, xMeth, xMake, rGetS, rGetI, rInDS, rInDI, xPutS, xPutI, xGet2S, xGet2I, xPopI, rDctD, rLstD, rCatT, HO.ins.injEq, ixN0, ixN1, ixN2, ixN3, atI0, atI1, atI2, atI3, eqV_str, eqV_int, eqV_is, eqV_si, inV_nil, inV_cons, flatV, List.all_cons, List.all_nil, wd_eq, wd_ne0, wd_ne0', List.getElem?_cons_zero, List.getElem?_cons_succ, List.set_cons_zero, List.set_cons_succ, List.cons_append, List.nil_append, List.append_nil, Nat.reduceAdd, Nat.reduceLT, Option.some.injEq, V.int.injEq, V.str.injEq, V.bl.injEq, V.ref.injEq, HO.lst.injEq, HO.tup.injEq, HO.dK.injEq, List.cons.injEq, exists_eq_left, exists_eq_left', exists_eq_right, exists_eq_right', exists_and_left, exists_and_right, exists_const, exists_eq, exists_eq', and_assoc, true_and, and_true, false_and, and_false, true_or, or_true, false_or, or_false, reduceCtorEq, not_true_eq_false, not_false_eq_true, decide_true, decide_false, decide_eq_true_eq, decide_not, Bool.not_true, Bool.not_false, Bool.false_eq_true, Bool.true_and, Bool.and_true, Bool.false_and, Bool.and_false, Bool.true_or, Bool.or_true, Bool.false_or, Bool.or_false, if_true, if_false, ite_true, ite_false, Nat.reduceEqDiff, exists_false, eq_self, upd_same, Bool.not_eq_true', decide_eq_false_iff_not, f2.keep _ _ h1 (by simp), hq]
      have lz : zs.length ≤ 700000 := by
        rw [tq.length, List.length_map]
        exact code_bound (o := .st s) ok1 (by simp only [Un.cnt] at hc ⊢; omega)
      refine ⟨big (by omega), fun q3 H3 A3 => ⟨q3, _, _, rfl, A3.at_, ?_, (f.trans f2).al A3⟩⟩
      rw [take_snoc hs, codeL_snoc, List.map_append, ← hlen]
      exact TpL.append ((h2.tups f2.tu).tups A3.tu) (tq.tups A3.tu)
    · rintro σ' H' ⟨r, xs, σ4, rfl, h1, h2, f⟩
      simp only [tIfS, tRet, tRetN, tAsg, gName, gSub, gCons, gNil, gTup, tDrop, tNext, tVar, tC, tOp, tUn, tTest, tB, tAnd, tOr, tNot, tAndV, tOrV, tNotV, tIf, tCons, tNil, xLst, xTup, xDic, tCB, tCall, tChain, tSl, tPart, tNoPart, rI, rI0, rU, rEq, rNe, scal, rXL, rXT, rXQ, rLenL, rLenT, rLenS, rLenQ, rInt1, rTupL, rLstL, rIsN, rNotN, rInT, rAddS, rLtS, rInS1, rNinS1, rIxS, rSlS, rStL, rCt, rSL, tApp, tPopAt, tPopL, tJoinL, tIndex, xFld, xSet, xMeth, xMake, rGetS, rGetI, rInDS, rInDI, xPutS, xPutI, xGet2S, xGet2I, xPopI, rDctD, rLstD, rCatT, HO.ins.injEq, ixN0, ixN1, ixN2, ixN3, atI0, atI1, atI2, atI3, eqV_str, eqV_int, eqV_is, eqV_si, inV_nil, inV_cons, flatV, List.all_cons, List.all_nil, wd_eq, wd_ne0, wd_ne0', List.getElem?_cons_zero, List.getElem?_cons_succ, List.set_cons_zero, List.set_cons_succ, List.cons_append, List.nil_append, List.append_nil, Nat.reduceAdd, Nat.reduceLT, Option.some.injEq, V.int.injEq, V.str.injEq, V.bl.injEq, V.ref.injEq, HO.lst.injEq, HO.tup.injEq, HO.dK.injEq, List.cons.injEq, exists_eq_left, exists_eq_left', exists_eq_right, exists_eq_right', exists_and_left, exists_and_right, exists_const, exists_eq, exists_eq', and_assoc, true_and, and_true, false_and, and_false, true_or, or_true, false_or, or_false, reduceCtorEq, not_true_eq_false, not_false_eq_true, decide_true, decide_false, decide_eq_true_eq, decide_not, Bool.not_true, Bool.not_false, Bool.false_eq_true, Bool.true_and, Bool.and_true, Bool.false_and, Bool.and_false, Bool.true_or, Bool.or_true, Bool.false_or, Bool.or_false, if_true, if_false, ite_true, ite_false, Nat.reduceEqDiff, exists_false, eq_self, upd_same, Bool.not_eq_true', decide_eq_false_iff_not]
      rw [hy.length, List.length_map, List.take_length] at h2
      exact k _ _ _ h1 h2 (A1.fr.trans f)
  | st s =>
    cases s with
    | say e =>
      obtain ⟨a, ve, rfl, ha, te⟩ := tp_say hv
      simp only [tIfS, tRet, tRetN, tAsg, gName, gSub, gCons, gNil, gTup, tDrop, tNext, tVar, tC, tOp, tUn, tTest, tB, tAnd, tOr, tNot, tAndV, tOrV, tNotV, tIf, tCons, tNil, xLst, xTup, xDic, tCB, tCall, tChain, tSl, tPart, tNoPart, rI, rI0, rU, rEq, rNe, scal, rXL, rXT, rXQ, rLenL, rLenT, rLenS, rLenQ, rInt1, rTupL, rLstL, rIsN, rNotN, rInT, rAddS, rLtS, rInS1, rNinS1, rIxS, rSlS, rStL, rCt, rSL, tApp, tPopAt, tPopL, tJoinL, tIndex, xFld, xSet, xMeth, xMake, rGetS, rGetI, rInDS, rInDI, xPutS, xPutI, xGet2S, xGet2I, xPopI, rDctD, rLstD, rCatT, HO.ins.injEq, ixN0, ixN1, ixN2, ixN3, atI0, atI1, atI2, atI3, eqV_str, eqV_int, eqV_is, eqV_si, inV_nil, inV_cons, flatV, List.all_cons, List.all_nil, wd_eq, wd_ne0, wd_ne0', List.getElem?_cons_zero, List.getElem?_cons_succ, List.set_cons_zero, List.set_cons_succ, List.cons_append, List.nil_append, List.append_nil, Nat.reduceAdd, Nat.reduceLT, Option.some.injEq, V.int.injEq, V.str.injEq, V.bl.injEq, V.ref.injEq, HO.lst.injEq, HO.tup.injEq, HO.dK.injEq, List.cons.injEq, exists_eq_left, exists_eq_left', exists_eq_right, exists_eq_right', exists_and_left, exists_and_right, exists_const, exists_eq, exists_eq', and_assoc, true_and, and_true, false_and, and_false, true_or, or_true, false_or, or_false, reduceCtorEq, not_true_eq_false, not_false_eq_true, decide_true, decide_false, decide_eq_true_eq, decide_not, Bool.not_true, Bool.not_false, Bool.false_eq_true, Bool.true_and, Bool.and_true, Bool.false_and, Bool.and_false, Bool.true_or, Bool.or_true, Bool.false_or, Bool.or_false, if_true, if_false, ite_true, ite_false, Nat.reduceEqDiff, exists_false, eq_self, upd_same, Bool.not_eq_true', decide_eq_false_iff_not, ha]
      unfold t_L_code_1; refine st_seq ?_
      simp only [tIfS, tRet, tRetN, tAsg, gName, gSub, gCons, gNil, gTup, tDrop, tNext, tVar, tC, tOp, tUn, tTest, tB, tAnd, tOr, tNot, tAndV, tOrV, tNotV, tIf, tCons, tNil, xLst, xTup, xDic, tCB, tCall, tChain, tSl, tPart, tNoPart, rI, rI0, rU, rEq, rNe, scal, rXL, rXT, rXQ, rLenL, rLenT, rLenS, rLenQ, rInt1, rTupL, rLstL, rIsN, rNotN, rInT, rAddS, rLtS, rInS1, rNinS1, rIxS, rSlS, rStL, rCt, rSL, tApp, tPopAt, tPopL, tJoinL, tIndex, xFld, xSet, xMeth, xMake, rGetS, rGetI, rInDS, rInDI, xPutS, xPutI, xGet2S, xGet2I, xPopI, rDctD, rLstD, rCatT, HO.ins.injEq, ixN0, ixN1, ixN2, ixN3, atI0, atI1, atI2, atI3, eqV_str, eqV_int, eqV_is, eqV_si, inV_nil, inV_cons, flatV, List.all_cons, List.all_nil, wd_eq, wd_ne0, wd_ne0', List.getElem?_cons_zero, List.getElem?_cons_succ, List.set_cons_zero, List.set_cons_succ, List.cons_append, List.nil_append, List.append_nil, Nat.reduceAdd, Nat.reduceLT, Option.some.injEq, V.int.injEq, V.str.injEq, V.bl.injEq, V.ref.injEq, HO.lst.injEq, HO.tup.injEq, HO.dK.injEq, List.cons.injEq, exists_eq_left, exists_eq_left', exists_eq_right, exists_eq_right', exists_and_left, exists_and_right, exists_const, exists_eq, exists_eq', and_assoc, true_and, and_true, false_and, and_false, true_or, or_true, false_or, or_false, reduceCtorEq, not_true_eq_false, not_false_eq_true, decide_true, decide_false, decide_eq_true_eq, decide_not, Bool.not_true, Bool.not_false, Bool.false_eq_true, Bool.true_and, Bool.and_true, Bool.false_and, Bool.and_false, Bool.true_or, Bool.or_true, Bool.false_or, Bool.or_false, if_true, if_false, ite_true, ite_false, Nat.reduceEqDiff, exists_false, eq_self, upd_same, Bool.not_eq_true', decide_eq_false_iff_not]
      unfold t_L_code_2; refine st_seq ?_
      simp only [tIfS, tRet, tRetN, tAsg, gName, gSub, gCons, gNil, gTup, tDrop, tNext, tVar, tC, tOp, tUn, tTest, tB, tAnd, tOr, tNot, tAndV, tOrV, tNotV, tIf, tCons, tNil, xLst, xTup, xDic, tCB, tCall, tChain, tSl, tPart, tNoPart, rI, rI0, rU, rEq, rNe, scal, rXL, rXT, rXQ, rLenL, rLenT, rLenS, rLenQ, rInt1, rTupL, rLstL, rIsN, rNotN, rInT, rAddS, rLtS, rInS1, rNinS1, rIxS, rSlS, rStL, rCt, rSL, tApp, tPopAt, tPopL, tJoinL, tIndex, xFld, xSet, xMeth, xMake, rGetS, rGetI, rInDS, rInDI, xPutS, xPutI, xGet2S, xGet2I, xPopI, rDctD, rLstD, rCatT, HO.ins.injEq, ixN0, ixN1, ixN2, ixN3, atI0, atI1, atI2, atI3, eqV_str, eqV_int, eqV_is, eqV_si, inV_nil, inV_cons, flatV, List.all_cons, List.all_nil, wd_eq, wd_ne0, wd_ne0', List.getElem?_cons_zero, List.getElem?_cons_succ, List.set_cons_zero, List.set_cons_succ, List.cons_append, List.nil_append, List.append_nil, Nat.reduceAdd, Nat.reduceLT, Option.some.injEq, V.int.injEq, V.str.injEq, V.bl.injEq, V.ref.injEq, HO.lst.injEq, HO.tup.injEq, HO.dK.injEq, List.cons.injEq, exists_eq_left, exists_eq_left', exists_eq_right, exists_eq_right', exists_and_left, exists_and_right, exists_const, exists_eq, exists_eq', and_assoc, true_and, and_true, false_and, and_false, true_or, or_true, false_or, or_false, reduceCtorEq, not_true_eq_false, not_false_eq_true, decide_true, decide_false, decide_eq_true_eq, decide_not, Bool.not_true, Bool.not_false, Bool.false_eq_true, Bool.true_and, Bool.and_true, Bool.false_and, Bool.and_false, Bool.true_or, Bool.or_true, Bool.false_or, Bool.or_false, if_true, if_false, ite_true, ite_false, Nat.reduceEqDiff, exists_false, eq_self, upd_same, Bool.not_eq_true', decide_eq_false_iff_not, ha]
      refine ⟨ve, e, rfl, te, Nat.le_trans ok.2 (by decide), Nat.le_trans ok.2 (by decide), fun p xs H1 hp tp f1 => ?_⟩
      simp only [tIfS, tRet, tRetN, tAsg, gName, gSub, gCons, gNil, gTup, tDrop, tNext, tVar, tC, tOp, tUn, tTest, tB, tAnd, tOr, tNot, tAndV, tOrV, tNotV, tIf, tCons, tNil, xLst, xTup, xDic, tCB, tCall, tChain, tSl, tPart, tNoPart, rI, rI0, rU, rEq, rNe, scal, rXL, rXT, rXQ, rLenL, rLenT, rLenS, rLenQ, rInt1, rTupL, rLstL, rIsN, rNotN, rInT, rAddS, rLtS, rInS1, rNinS1, rIxS, rSlS, rStL, rCt, rSL, tApp, tPopAt, tPopL, tJoinL, tIndex, xFld, xSet, xMeth, xMake, rGetS, rGetI, rInDS, rInDI, xPutS, xPutI, xGet2S, xGet2I, xPopI, rDctD, rLstD, rCatT, HO.ins.injEq, ixN0, ixN1, ixN2, ixN3, atI0, atI1, atI2, atI3, eqV_str, eqV_int, eqV_is, eqV_si, inV_nil, inV_cons, flatV, List.all_cons, List.all_nil, wd_eq, wd_ne0, wd_ne0', List.getElem?_cons_zero, List.getElem?_cons_succ, List.set_cons_zero, List.set_cons_succ, List.cons_append, List.nil_append, List.append_nil, Nat.reduceAdd, Nat.reduceLT, Option.some.injEq, V.int.injEq, V.str.injEq, V.bl.injEq, V.ref.injEq, HO.lst.injEq, HO.tup.injEq, HO.dK.injEq, List.cons.injEq, exists_eq_left, exists_eq_left', exists_eq_right, exists_eq_right', exists_and_left, exists_and_right, exists_const, exists_eq, exists_eq', and_assoc, true_and, and_true, false_and, and_false, true_or, or_true, false_or, or_false, reduceCtorEq, not_true_eq_false, not_false_eq_true, decide_true, decide_false, decide_eq_true_eq, decide_not, Bool.not_true, Bool.not_false, Bool.false_eq_true, Bool.true_and, Bool.and_true, Bool.false_and, Bool.and_false, Bool.true_or, Bool.or_true, Bool.false_or, Bool.or_false, if_true, if_false, ite_true, ite_false, Nat.reduceEqDiff, exists_false, eq_self, upd_same, Bool.not_eq_true', decide_eq_false_iff_not]
      refine ⟨(by simp only [List.length_cons, List.length_nil]; decide), fun q2 H2 A2 => ⟨(by simp only [List.length_cons, List.length_nil]; decide), fun q3 H3 A3 => ?_⟩⟩
      simp only [tIfS, tRet, tRetN, tAsg, gName, gSub, gCons, gNil, gTup, tDrop, tNext, tVar, tC, tOp, tUn, tTest, tB, tAnd, tOr, tNot, tAndV, tOrV, tNotV, tIf, tCons, tNil, xLst, xTup, xDic, tCB, tCall, tChain, tSl, tPart, tNoPart, rI, rI0, rU, rEq, rNe, scal, rXL, rXT, rXQ, rLenL, rLenT, rLenS, rLenQ, rInt1, rTupL, rLstL, rIsN, rNotN, rInT, rAddS, rLtS, rInS1, rNinS1, rIxS, rSlS, rStL, rCt, rSL, tApp, tPopAt, tPopL, tJoinL, tIndex, xFld, xSet, xMeth, xMake, rGetS, rGetI, rInDS, rInDI, xPutS, xPutI, xGet2S, xGet2I, xPopI, rDctD, rLstD, rCatT, HO.ins.injEq, ixN0, ixN1, ixN2, ixN3, atI0, atI1, atI2, atI3, eqV_str, eqV_int, eqV_is, eqV_si, inV_nil, inV_cons, flatV, List.all_cons, List.all_nil, wd_eq, wd_ne0, wd_ne0', List.getElem?_cons_zero, List.getElem?_cons_succ, List.set_cons_zero, List.set_cons_succ, List.cons_append, List.nil_append, List.append_nil, Nat.reduceAdd, Nat.reduceLT, Option.some.injEq, V.int.injEq, V.str.injEq, V.bl.injEq, V.ref.injEq, HO.lst.injEq, HO.tup.injEq, HO.dK.injEq, List.cons.injEq, exists_eq_left, exists_eq_left', exists_eq_right, exists_eq_right', exists_and_left, exists_and_right, exists_const, exists_eq, exists_eq', and_assoc, true_and, and_true, false_and, and_false, true_or, or_true, false_or, or_false, reduceCtorEq, not_true_eq_false, not_false_eq_true, decide_true, decide_false, decide_eq_true_eq, decide_not, Bool.not_true, Bool.not_false, Bool.false_eq_true, Bool.true_and, Bool.and_true, Bool.false_and, Bool.and_false, Bool.true_or, Bool.or_true, Bool.false_or, Bool.or_false, if_true, if_false, ite_true, ite_false, Nat.reduceEqDiff, exists_false, eq_self, upd_same, Bool.not_eq_true', decide_eq_false_iff_not, A3.at_, A3.k (A2.k hp)]
      have lz : xs.length ≤ 1024 := by rw [tp.length, List.length_map]; exact Ex.len10 (Nat.le_trans ok.2 (by decide))
      refine ⟨big (by simp only [List.length_cons, List.length_nil]; omega), fun q4 H4 A4 => ?_⟩
      refine k _ _ _ A4.at_ ?_ (((f1.al A2).al A3).al A4)
      simp only [Un.code, Sm.code, List.map_append, List.map_cons, List.map_nil]
      exact TpL.append (((tp.tups A2.tu).tups A3.tu).tups A4.tu) (.cons (.tup (A4.k (A3.k A2.at_)) (.cons (.str _) .nil)) .nil)
    | set x e =>
      obtain ⟨a, ve, rfl, ha, te⟩ := tp_set hv
      simp only [tIfS, tRet, tRetN, tAsg, gName, gSub, gCons, gNil, gTup, tDrop, tNext, tVar, tC, tOp, tUn, tTest, tB, tAnd, tOr, tNot, tAndV, tOrV, tNotV, tIf, tCons, tNil, xLst, xTup, xDic, tCB, tCall, tChain, tSl, tPart, tNoPart, rI, rI0, rU, rEq, rNe, scal, rXL, rXT, rXQ, rLenL, rLenT, rLenS, rLenQ, rInt1, rTupL, rLstL, rIsN, rNotN, rInT, rAddS, rLtS, rInS1, rNinS1, rIxS, rSlS, rStL, rCt, rSL, tApp, tPopAt, tPopL, tJoinL, tIndex, xFld, xSet, xMeth, xMake, rGetS, rGetI, rInDS, rInDI, xPutS, xPutI, xGet2S, xGet2I, xPopI, rDctD, rLstD, rCatT, HO.ins.injEq, ixN0, ixN1, ixN2, ixN3, atI0, atI1, atI2, atI3, eqV_str, eqV_int, eqV_is, eqV_si, inV_nil, inV_cons, flatV, List.all_cons, List.all_nil, wd_eq, wd_ne0, wd_ne0', List.getElem?_cons_zero, List.getElem?_cons_succ, List.set_cons_zero, List.set_cons_succ, List.cons_append, List.nil_append, List.append_nil, Nat.reduceAdd, Nat.reduceLT, Option.some.injEq, V.int.injEq, V.str.injEq, V.bl.injEq, V.ref.injEq, HO.lst.injEq, HO.tup.injEq, HO.dK.injEq, List.cons.injEq, exists_eq_left, exists_eq_left', exists_eq_right, exists_eq_right', exists_and_left, exists_and_right, exists_const, exists_eq, exists_eq', and_assoc, true_and, and_true, false_and, and_false, true_or, or_true, false_or, or_false, reduceCtorEq, not_true_eq_false, not_false_eq_true, decide_true, decide_false, decide_eq_true_eq, decide_not, Bool.not_true, Bool.not_false, Bool.false_eq_true, Bool.true_and, Bool.and_true, Bool.false_and, Bool.and_false, Bool.true_or, Bool.or_true, Bool.false_or, Bool.or_false, if_true, if_false, ite_true, ite_false, Nat.reduceEqDiff, exists_false, eq_self, upd_same, Bool.not_eq_true', decide_eq_false_iff_not, ha]
      unfold t_L_code_1; refine st_seq ?_
      simp only [tIfS, tRet, tRetN, tAsg, gName, gSub, gCons, gNil, gTup, tDrop, tNext, tVar, tC, tOp, tUn, tTest, tB, tAnd, tOr, tNot, tAndV, tOrV, tNotV, tIf, tCons, tNil, xLst, xTup, xDic, tCB, tCall, tChain, tSl, tPart, tNoPart, rI, rI0, rU, rEq, rNe, scal, rXL, rXT, rXQ, rLenL, rLenT, rLenS, rLenQ, rInt1, rTupL, rLstL, rIsN, rNotN, rInT, rAddS, rLtS, rInS1, rNinS1, rIxS, rSlS, rStL, rCt, rSL, tApp, tPopAt, tPopL, tJoinL, tIndex, xFld, xSet, xMeth, xMake, rGetS, rGetI, rInDS, rInDI, xPutS, xPutI, xGet2S, xGet2I, xPopI, rDctD, rLstD, rCatT, HO.ins.injEq, ixN0, ixN1, ixN2, ixN3, atI0, atI1, atI2, atI3, eqV_str, eqV_int, eqV_is, eqV_si, inV_nil, inV_cons, flatV, List.all_cons, List.all_nil, wd_eq, wd_ne0, wd_ne0', List.getElem?_cons_zero, List.getElem?_cons_succ, List.set_cons_zero, List.set_cons_succ, List.cons_append, List.nil_append, List.append_nil, Nat.reduceAdd, Nat.reduceLT, Option.some.injEq, V.int.injEq, V.str.injEq, V.bl.injEq, V.ref.injEq, HO.lst.injEq, HO.tup.injEq, HO.dK.injEq, List.cons.injEq, exists_eq_left, exists_eq_left', exists_eq_right, exists_eq_right', exists_and_left, exists_and_right, exists_const, exists_eq, exists_eq', and_assoc, true_and, and_true, false_and, and_false, true_or, or_true, false_or, or_false, reduceCtorEq, not_true_eq_false, not_false_eq_true, decide_true, decide_false, decide_eq_true_eq, decide_not, Bool.not_true, Bool.not_false, Bool.false_eq_true, Bool.true_and, Bool.and_true, Bool.false_and, Bool.and_false, Bool.true_or, Bool.or_true, Bool.false_or, Bool.or_false, if_true, if_false, ite_true, ite_false, Nat.reduceEqDiff, exists_false, eq_self, upd_same, Bool.not_eq_true', decide_eq_false_iff_not]
      unfold t_L_code_2; refine st_seq ?_
      simp only [tIfS, tRet, tRetN, tAsg, gName, gSub, gCons, gNil, gTup, tDrop, tNext, tVar, tC, tOp, tUn, tTest, tB, tAnd, tOr, tNot, tAndV, tOrV, tNotV, tIf, tCons, tNil, xLst, xTup, xDic, tCB, tCall, tChain, tSl, tPart, tNoPart, rI, rI0, rU, rEq, rNe, scal, rXL, rXT, rXQ, rLenL, rLenT, rLenS, rLenQ, rInt1, rTupL, rLstL, rIsN, rNotN, rInT, rAddS, rLtS, rInS1, rNinS1, rIxS, rSlS, rStL, rCt, rSL, tApp, tPopAt, tPopL, tJoinL, tIndex, xFld, xSet, xMeth, xMake, rGetS, rGetI, rInDS, rInDI, xPutS, xPutI, xGet2S, xGet2I, xPopI, rDctD, rLstD, rCatT, HO.ins.injEq, ixN0, ixN1, ixN2, ixN3, atI0, atI1, atI2, atI3, eqV_str, eqV_int, eqV_is, eqV_si, inV_nil, inV_cons, flatV, List.all_cons, List.all_nil, wd_eq, wd_ne0, wd_ne0', List.getElem?_cons_zero, List.getElem?_cons_succ, List.set_cons_zero, List.set_cons_succ, List.cons_append, List.nil_append, List.append_nil, Nat.reduceAdd, Nat.reduceLT, Option.some.injEq, V.int.injEq, V.str.injEq, V.bl.injEq, V.ref.injEq, HO.lst.injEq, HO.tup.injEq, HO.dK.injEq, List.cons.injEq, exists_eq_left, exists_eq_left', exists_eq_right, exists_eq_right', exists_and_left, exists_and_right, exists_const, exists_eq, exists_eq', and_assoc, true_and, and_true, false_and, and_false, true_or, or_true, false_or, or_false, reduceCtorEq, not_true_eq_false, not_false_eq_true, decide_true, decide_false, decide_eq_true_eq, decide_not, Bool.not_true, Bool.not_false, Bool.false_eq_true, Bool.true_and, Bool.and_true, Bool.false_and, Bool.and_false, Bool.true_or, Bool.or_true, Bool.false_or, Bool.or_false, if_true, if_false, ite_true, ite_false, Nat.reduceEqDiff, exists_false, eq_self, upd_same, Bool.not_eq_true', decide_eq_false_iff_not]
      unfold t_L_code_3; refine st_seq ?_
      simp only [tIfS, tRet, tRetN, tAsg, gName, gSub, gCons, gNil, gTup, tDrop, tNext, tVar, tC, tOp, tUn, tTest, tB, tAnd, tOr, tNot, tAndV, tOrV, tNotV, tIf, tCons, tNil, xLst, xTup, xDic, tCB, tCall, tChain, tSl, tPart, tNoPart, rI, rI0, rU, rEq, rNe, scal, rXL, rXT, rXQ, rLenL, rLenT, rLenS, rLenQ, rInt1, rTupL, rLstL, rIsN, rNotN, rInT, rAddS, rLtS, rInS1, rNinS1, rIxS, rSlS, rStL, rCt, rSL, tApp, tPopAt, tPopL, tJoinL, tIndex, xFld, xSet, xMeth, xMake, rGetS, rGetI, rInDS, rInDI, xPutS, xPutI, xGet2S, xGet2I, xPopI, rDctD, rLstD, rCatT, HO.ins.injEq, ixN0, ixN1, ixN2, ixN3, atI0, atI1, atI2, atI3, eqV_str, eqV_int, eqV_is, eqV_si, inV_nil, inV_cons, flatV, List.all_cons, List.all_nil, wd_eq, wd_ne0, wd_ne0', List.getElem?_cons_zero, List.getElem?_cons_succ, List.set_cons_zero, List.set_cons_succ, List.cons_append, List.nil_append, List.append_nil, Nat.reduceAdd, Nat.reduceLT, Option.some.injEq, V.int.injEq, V.str.injEq, V.bl.injEq, V.ref.injEq, HO.lst.injEq, HO.tup.injEq, HO.dK.injEq, List.cons.injEq, exists_eq_left, exists_eq_left', exists_eq_right, exists_eq_right', exists_and_left, exists_and_right, exists_const, exists_eq, exists_eq', and_assoc, true_and, and_true, false_and, and_false, true_or, or_true, false_or, or_false, reduceCtorEq, not_true_eq_false, not_false_eq_true, decide_true, decide_false, decide_eq_true_eq, decide_not, Bool.not_true, Bool.not_false, Bool.false_eq_true, Bool.true_and, Bool.and_true, Bool.false_and, Bool.and_false, Bool.true_or, Bool.or_true, Bool.false_or, Bool.or_false, if_true, if_false, ite_true, ite_false, Nat.reduceEqDiff, exists_false, eq_self, upd_same, Bool.not_eq_true', decide_eq_false_iff_not, ha]
      refine ⟨ve, e, rfl, te, Nat.le_trans ok.2.2 (by decide), Nat.le_trans ok.2.2 (by decide), fun p xs H1 hp tp f1 => ?_⟩
      simp only [tIfS, tRet, tRetN, tAsg, gName, gSub, gCons, gNil, gTup, tDrop, tNext, tVar, tC, tOp, tUn, tTest, tB, tAnd, tOr, tNot, tAndV, tOrV, tNotV, tIf, tCons, tNil, xLst, xTup, xDic, tCB, tCall, tChain, tSl, tPart, tNoPart, rI, rI0, rU, rEq, rNe, scal, rXL, rXT, rXQ, rLenL, rLenT, rLenS, rLenQ, rInt1, rTupL, rLstL, rIsN, rNotN, rInT, rAddS, rLtS, rInS1, rNinS1, rIxS, rSlS, rStL, rCt, rSL, tApp, tPopAt, tPopL, tJoinL, tIndex, xFld, xSet, xMeth, xMake, rGetS, rGetI, rInDS, rInDI, xPutS, xPutI, xGet2S, xGet2I, xPopI, rDctD, rLstD, rCatT, HO.ins.injEq, ixN0, ixN1, ixN2, ixN3, atI0, atI1, atI2, atI3, eqV_str, eqV_int, eqV_is, eqV_si, inV_nil, inV_cons, flatV, List.all_cons, List.all_nil, wd_eq, wd_ne0, wd_ne0', List.getElem?_cons_zero, List.getElem?_cons_succ, List.set_cons_zero, List.set_cons_succ, List.cons_append, List.nil_append, List.append_nil, Nat.reduceAdd, Nat.reduceLT, Option.some.injEq, V.int.injEq, V.str.injEq, V.bl.injEq, V.ref.injEq, HO.lst.injEq, HO.tup.injEq, HO.dK.injEq, List.cons.injEq, exists_eq_left, exists_eq_left', exists_eq_right, exists_eq_right', exists_and_left, exists_and_right, exists_const, exists_eq, exists_eq', and_assoc, true_and, and_true, false_and, and_false, true_or, or_true, false_or, or_false, reduceCtorEq, not_true_eq_false, not_false_eq_true, decide_true, decide_false, decide_eq_true_eq, decide_not, Bool.not_true, Bool.not_false, Bool.false_eq_true, Bool.true_and, Bool.and_true, Bool.false_and, Bool.and_false, Bool.true_or, Bool.or_true, Bool.false_or, Bool.or_false, if_true, if_false, ite_true, ite_false, Nat.reduceEqDiff, exists_false, eq_self, upd_same, Bool.not_eq_true', decide_eq_false_iff_not, f1.tu _ _ ha]
      refine ⟨(by simp only [List.length_cons, List.length_nil]; decide), fun q2 H2 A2 => ⟨(by simp only [List.length_cons, List.length_nil]; decide), fun q3 H3 A3 => ?_⟩⟩
      simp only [tIfS, tRet, tRetN, tAsg, gName, gSub, gCons, gNil, gTup, tDrop, tNext, tVar, tC, tOp, tUn, tTest, tB, tAnd, tOr, tNot, tAndV, tOrV, tNotV, tIf, tCons, tNil, xLst, xTup, xDic, tCB, tCall, tChain, tSl, tPart, tNoPart, rI, rI0, rU, rEq, rNe, scal, rXL, rXT, rXQ, rLenL, rLenT, rLenS, rLenQ, rInt1, rTupL, rLstL, rIsN, rNotN, rInT, rAddS, rLtS, rInS1, rNinS1, rIxS, rSlS, rStL, rCt, rSL, tApp, tPopAt, tPopL, tJoinL, tIndex, xFld, xSet, xMeth, xMake, rGetS, rGetI, rInDS, rInDI, xPutS, xPutI, xGet2S, xGet2I, xPopI, rDctD, rLstD, rCatT, HO.ins.injEq, ixN0, ixN1, ixN2, ixN3, atI0, atI1, atI2, atI3, eqV_str, eqV_int, eqV_is, eqV_si, inV_nil, inV_cons, flatV, List.all_cons, List.all_nil, wd_eq, wd_ne0, wd_ne0', List.getElem?_cons_zero, List.getElem?_cons_succ, List.set_cons_zero, List.set_cons_succ, List.cons_append, List.nil_append, List.append_nil, Nat.reduceAdd, Nat.reduceLT, Option.some.injEq, V.int.injEq, V.str.injEq, V.bl.injEq, V.ref.injEq, HO.lst.injEq, HO.tup.injEq, HO.dK.injEq, List.cons.injEq, exists_eq_left, exists_eq_left', exists_eq_right, exists_eq_right', exists_and_left, exists_and_right, exists_const, exists_eq, exists_eq', and_assoc, true_and, and_true, false_and, and_false, true_or, or_true, false_or, or_false, reduceCtorEq, not_true_eq_false, not_false_eq_true, decide_true, decide_false, decide_eq_true_eq, decide_not, Bool.not_true, Bool.not_false, Bool.false_eq_true, Bool.true_and, Bool.and_true, Bool.false_and, Bool.and_false, Bool.true_or, Bool.or_true, Bool.false_or, Bool.or_false, if_true, if_false, ite_true, ite_false, Nat.reduceEqDiff, exists_false, eq_self, upd_same, Bool.not_eq_true', decide_eq_false_iff_not, A3.at_, A3.k (A2.k hp)]
      have lz : xs.length ≤ 1024 := by rw [tp.length, List.length_map]; exact Ex.len10 (Nat.le_trans ok.2.2 (by decide))
      refine ⟨big (by simp only [List.length_cons, List.length_nil]; omega), fun q4 H4 A4 => ?_⟩
      refine k _ _ _ A4.at_ ?_ (((f1.al A2).al A3).al A4)
      simp only [Un.code, Sm.code, List.map_append, List.map_cons, List.map_nil]
      exact TpL.append (((tp.tups A2.tu).tups A3.tu).tups A4.tu) (.cons (.tup (A4.k (A3.k A2.at_)) (.cons (.str _) (.cons (.str _) .nil))) .nil)
    | ite e s1 s2 =>
      obtain ⟨a, ve, v1, v2, rfl, ha, te, ts1, ts2⟩ := tp_ite hv
      simp only [Un.dp, Sm.dp] at hd
      simp only [Un.cnt, Sm.cnt] at hc
      have hde := ok.1.2
      simp only [tIfS, tRet, tRetN, tAsg, gName, gSub, gCons, gNil, gTup, tDrop, tNext, tVar, tC, tOp, tUn, tTest, tB, tAnd, tOr, tNot, tAndV, tOrV, tNotV, tIf, tCons, tNil, xLst, xTup, xDic, tCB, tCall, tChain, tSl, tPart, tNoPart, rI, rI0, rU, rEq, rNe, scal, rXL, rXT, rXQ, rLenL, rLenT, rLenS, rLenQ, rInt1, rTupL, rLstL, rIsN, rNotN, rInT, rAddS, rLtS, rInS1, rNinS1, rIxS, rSlS, rStL, rCt, rSL, tApp, tPopAt, tPopL, tJoinL, tIndex, xFld, xSet, xMeth, xMake, rGetS, rGetI, rInDS, rInDI, xPutS, xPutI, xGet2S, xGet2I, xPopI, rDctD, rLstD, rCatT, HO.ins.injEq, ixN0, ixN1, ixN2, ixN3, atI0, atI1, atI2, atI3, eqV_str, eqV_int, eqV_is, eqV_si, inV_nil, inV_cons, flatV, List.all_cons, List.all_nil, wd_eq, wd_ne0, wd_ne0', List.getElem?_cons_zero, List.getElem?_cons_succ, List.set_cons_zero, List.set_cons_succ, List.cons_append, List.nil_append, List.append_nil, Nat.reduceAdd, Nat.reduceLT, Option.some.injEq, V.int.injEq, V.str.injEq, V.bl.injEq, V.ref.injEq, HO.lst.injEq, HO.tup.injEq, HO.dK.injEq, List.cons.injEq, exists_eq_left, exists_eq_left', exists_eq_right, exists_eq_right', exists_and_left, exists_and_right, exists_const, exists_eq, exists_eq', and_assoc, true_and, and_true, false_and, and_false, true_or, or_true, false_or, or_false, reduceCtorEq, not_true_eq_false, not_false_eq_true, decide_true, decide_false, decide_eq_true_eq, decide_not, Bool.not_true, Bool.not_false, Bool.false_eq_true, Bool.true_and, Bool.and_true, Bool.false_and, Bool.and_false, Bool.true_or, Bool.or_true, Bool.false_or, Bool.or_false, if_true, if_false, ite_true, ite_false, Nat.reduceEqDiff, exists_false, eq_self, upd_same, Bool.not_eq_true', decide_eq_false_iff_not, ha]
      unfold t_L_code_1; refine st_seq ?_
      simp only [tIfS, tRet, tRetN, tAsg, gName, gSub, gCons, gNil, gTup, tDrop, tNext, tVar, tC, tOp, tUn, tTest, tB, tAnd, tOr, tNot, tAndV, tOrV, tNotV, tIf, tCons, tNil, xLst, xTup, xDic, tCB, tCall, tChain, tSl, tPart, tNoPart, rI, rI0, rU, rEq, rNe, scal, rXL, rXT, rXQ, rLenL, rLenT, rLenS, rLenQ, rInt1, rTupL, rLstL, rIsN, rNotN, rInT, rAddS, rLtS, rInS1, rNinS1, rIxS, rSlS, rStL, rCt, rSL, tApp, tPopAt, tPopL, tJoinL, tIndex, xFld, xSet, xMeth, xMake, rGetS, rGetI, rInDS, rInDI, xPutS, xPutI, xGet2S, xGet2I, xPopI, rDctD, rLstD, rCatT, HO.ins.injEq, ixN0, ixN1, ixN2, ixN3, atI0, atI1, atI2, atI3, eqV_str, eqV_int, eqV_is, eqV_si, inV_nil, inV_cons, flatV, List.all_cons, List.all_nil, wd_eq, wd_ne0, wd_ne0', List.getElem?_cons_zero, List.getElem?_cons_succ, List.set_cons_zero, List.set_cons_succ, List.cons_append, List.nil_append, List.append_nil, Nat.reduceAdd, Nat.reduceLT, Option.some.injEq, V.int.injEq, V.str.injEq, V.bl.injEq, V.ref.injEq, HO.lst.injEq, HO.tup.injEq, HO.dK.injEq, List.cons.injEq, exists_eq_left, exists_eq_left', exists_eq_right, exists_eq_right', exists_and_left, exists_and_right, exists_const, exists_eq, exists_eq', and_assoc, true_and, and_true, false_and, and_false, true_or, or_true, false_or, or_false, reduceCtorEq, not_true_eq_false, not_false_eq_true, decide_true, decide_false, decide_eq_true_eq, decide_not, Bool.not_true, Bool.not_false, Bool.false_eq_true, Bool.true_and, Bool.and_true, Bool.false_and, Bool.and_false, Bool.true_or, Bool.or_true, Bool.false_or, Bool.or_false, if_true, if_false, ite_true, ite_false, Nat.reduceEqDiff, exists_false, eq_self, upd_same, Bool.not_eq_true', decide_eq_false_iff_not]
      unfold t_L_code_2; refine st_seq ?_
      simp only [tIfS, tRet, tRetN, tAsg, gName, gSub, gCons, gNil, gTup, tDrop, tNext, tVar, tC, tOp, tUn, tTest, tB, tAnd, tOr, tNot, tAndV, tOrV, tNotV, tIf, tCons, tNil, xLst, xTup, xDic, tCB, tCall, tChain, tSl, tPart, tNoPart, rI, rI0, rU, rEq, rNe, scal, rXL, rXT, rXQ, rLenL, rLenT, rLenS, rLenQ, rInt1, rTupL, rLstL, rIsN, rNotN, rInT, rAddS, rLtS, rInS1, rNinS1, rIxS, rSlS, rStL, rCt, rSL, tApp, tPopAt, tPopL, tJoinL, tIndex, xFld, xSet, xMeth, xMake, rGetS, rGetI, rInDS, rInDI, xPutS, xPutI, xGet2S, xGet2I, xPopI, rDctD, rLstD, rCatT, HO.ins.injEq, ixN0, ixN1, ixN2, ixN3, atI0, atI1, atI2, atI3, eqV_str, eqV_int, eqV_is, eqV_si, inV_nil, inV_cons, flatV, List.all_cons, List.all_nil, wd_eq, wd_ne0, wd_ne0', List.getElem?_cons_zero, List.getElem?_cons_succ, List.set_cons_zero, List.set_cons_succ, List.cons_append, List.nil_append, List.append_nil, Nat.reduceAdd, Nat.reduceLT, Option.some.injEq, V.int.injEq, V.str.injEq, V.bl.injEq, V.ref.injEq, HO.lst.injEq, HO.tup.injEq, HO.dK.injEq, List.cons.injEq, exists_eq_left, exists_eq_left', exists_eq_right, exists_eq_right', exists_and_left, exists_and_right, exists_const, exists_eq, exists_eq', and_assoc, true_and, and_true, false_and, and_false, true_or, or_true, false_or, or_false, reduceCtorEq, not_true_eq_false, not_false_eq_true, decide_true, decide_false, decide_eq_true_eq, decide_not, Bool.not_true, Bool.not_false, Bool.false_eq_true, Bool.true_and, Bool.and_true, Bool.false_and, Bool.and_false, Bool.true_or, Bool.or_true, Bool.false_or, Bool.or_false, if_true, if_false, ite_true, ite_false, Nat.reduceEqDiff, exists_false, eq_self, upd_same, Bool.not_eq_true', decide_eq_false_iff_not]
      unfold t_L_code_3; refine st_seq ?_
      simp only [tIfS, tRet, tRetN, tAsg, gName, gSub, gCons, gNil, gTup, tDrop, tNext, tVar, tC, tOp, tUn, tTest, tB, tAnd, tOr, tNot, tAndV, tOrV, tNotV, tIf, tCons, tNil, xLst, xTup, xDic, tCB, tCall, tChain, tSl, tPart, tNoPart, rI, rI0, rU, rEq, rNe, scal, rXL, rXT, rXQ, rLenL, rLenT, rLenS, rLenQ, rInt1, rTupL, rLstL, rIsN, rNotN, rInT, rAddS, rLtS, rInS1, rNinS1, rIxS, rSlS, rStL, rCt, rSL, tApp, tPopAt, tPopL, tJoinL, tIndex, xFld, xSet, xMeth, xMake, rGetS, rGetI, rInDS, rInDI, xPutS, xPutI, xGet2S, xGet2I, xPopI, rDctD, rLstD, rCatT, HO.ins.injEq, ixN0, ixN1, ixN2, ixN3, atI0, atI1, atI2, atI3, eqV_str, eqV_int, eqV_is, eqV_si, inV_nil, inV_cons, flatV, List.all_cons, List.all_nil, wd_eq, wd_ne0, wd_ne0', List.getElem?_cons_zero, List.getElem?_cons_succ, List.set_cons_zero, List.set_cons_succ, List.cons_append, List.nil_append, List.append_nil, Nat.reduceAdd, Nat.reduceLT, Option.some.injEq, V.int.injEq, V.str.injEq, V.bl.injEq, V.ref.injEq, HO.lst.injEq, HO.tup.injEq, HO.dK.injEq, List.cons.injEq, exists_eq_left, exists_eq_left', exists_eq_right, exists_eq_right', exists_and_left, exists_and_right, exists_const, exists_eq, exists_eq', and_assoc, true_and, and_true, false_and, and_false, true_or, or_true, false_or, or_false, reduceCtorEq, not_true_eq_false, not_false_eq_true, decide_true, decide_false, decide_eq_true_eq, decide_not, Bool.not_true, Bool.not_false, Bool.false_eq_true, Bool.true_and, Bool.and_true, Bool.false_and, Bool.and_false, Bool.true_or, Bool.or_true, Bool.false_or, Bool.or_false, if_true, if_false, ite_true, ite_false, Nat.reduceEqDiff, exists_false, eq_self, upd_same, Bool.not_eq_true', decide_eq_false_iff_not]
      unfold t_L_code_4; refine st_seq ?_
      simp only [tIfS, tRet, tRetN, tAsg, gName, gSub, gCons, gNil, gTup, tDrop, tNext, tVar, tC, tOp, tUn, tTest, tB, tAnd, tOr, tNot, tAndV, tOrV, tNotV, tIf, tCons, tNil, xLst, xTup, xDic, tCB, tCall, tChain, tSl, tPart, tNoPart, rI, rI0, rU, rEq, rNe, scal, rXL, rXT, rXQ, rLenL, rLenT, rLenS, rLenQ, rInt1, rTupL, rLstL, rIsN, rNotN, rInT, rAddS, rLtS, rInS1, rNinS1, rIxS, rSlS, rStL, rCt, rSL, tApp, tPopAt, tPopL, tJoinL, tIndex, xFld, xSet, xMeth, xMake, rGetS, rGetI, rInDS, rInDI, xPutS, xPutI, xGet2S, xGet2I, xPopI, rDctD, rLstD, rCatT, HO.ins.injEq, ixN0, ixN1, ixN2, ixN3, atI0, atI1, atI2, atI3, eqV_str, eqV_int, eqV_is, eqV_si, inV_nil, inV_cons, flatV, List.all_cons, List.all_nil, wd_eq, wd_ne0, wd_ne0', List.getElem?_cons_zero, List.getElem?_cons_succ, List.set_cons_zero, List.set_cons_succ, List.cons_append, List.nil_append, List.append_nil, Nat.reduceAdd, Nat.reduceLT, Option.some.injEq, V.int.injEq, V.str.injEq, V.bl.injEq, V.ref.injEq, HO.lst.injEq, HO.tup.injEq, HO.dK.injEq, List.cons.injEq, exists_eq_left, exists_eq_left', exists_eq_right, exists_eq_right', exists_and_left, exists_and_right, exists_const, exists_eq, exists_eq', and_assoc, true_and, and_true, false_and, and_false, true_or, or_true, false_or, or_false, reduceCtorEq, not_true_eq_false, not_false_eq_true, decide_true, decide_false, decide_eq_true_eq, decide_not, Bool.not_true, Bool.not_false, Bool.false_eq_true, Bool.true_and, Bool.and_true, Bool.false_and, Bool.and_false, Bool.true_or, Bool.or_true, Bool.false_or, Bool.or_false, if_true, if_false, ite_true, ite_false, Nat.reduceEqDiff, exists_false, eq_self, upd_same, Bool.not_eq_true', decide_eq_false_iff_not, ha]
      refine ⟨ve, e, rfl, te, Nat.le_trans hde (by decide), Nat.le_trans hde (by decide), fun p1 xs1 H1 h1 t1 f1 => ?_⟩
      unfold t_L_code_5; refine st_seq ?_
      simp only [tIfS, tRet, tRetN, tAsg, gName, gSub, gCons, gNil, gTup, tDrop, tNext, tVar, tC, tOp, tUn, tTest, tB, tAnd, tOr, tNot, tAndV, tOrV, tNotV, tIf, tCons, tNil, xLst, xTup, xDic, tCB, tCall, tChain, tSl, tPart, tNoPart, rI, rI0, rU, rEq, rNe, scal, rXL, rXT, rXQ, rLenL, rLenT, rLenS, rLenQ, rInt1, rTupL, rLstL, rIsN, rNotN, rInT, rAddS, rLtS, rInS1, rNinS1, rIxS, rSlS, rStL, rCt, rSL, tApp, tPopAt, tPopL, tJoinL, tIndex, xFld, xSet, xMeth, xMake, rGetS, rGetI, rInDS, rInDI, xPutS, xPutI, xGet2S, xGet2I, xPopI, rDctD, rLstD, rCatT, HO.ins.injEq, ixN0, ixN1, ixN2, ixN3, atI0, atI1, atI2, atI3, eqV_str, eqV_int, eqV_is, eqV_si, inV_nil, inV_cons, flatV, List.all_cons, List.all_nil, wd_eq, wd_ne0, wd_ne0', List.getElem?_cons_zero, List.getElem?_cons_succ, List.set_cons_zero, List.set_cons_succ, List.cons_append, List.nil_append, List.append_nil, Nat.reduceAdd, Nat.reduceLT, Option.some.injEq, V.int.injEq, V.str.injEq, V.bl.injEq, V.ref.injEq, HO.lst.injEq, HO.tup.injEq, HO.dK.injEq, List.cons.injEq, exists_eq_left, exists_eq_left', exists_eq_right, exists_eq_right', exists_and_left, exists_and_right, exists_const, exists_eq, exists_eq', and_assoc, true_and, and_true, false_and, and_false, true_or, or_true, false_or, or_false, reduceCtorEq, not_true_eq_false, not_false_eq_true, decide_true, decide_false, decide_eq_true_eq, decide_not, Bool.not_true, Bool.not_false, Bool.false_eq_true, Bool.true_and, Bool.and_true, Bool.false_and, Bool.and_false, Bool.true_or, Bool.or_true, Bool.false_or, Bool.or_false, if_true, if_false, ite_true, ite_false, Nat.reduceEqDiff, exists_false, eq_self, upd_same, Bool.not_eq_true', decide_eq_false_iff_not]
      unfold t_L_code_6; refine st_seq ?_
      simp only [tIfS, tRet, tRetN, tAsg, gName, gSub, gCons, gNil, gTup, tDrop, tNext, tVar, tC, tOp, tUn, tTest, tB, tAnd, tOr, tNot, tAndV, tOrV, tNotV, tIf, tCons, tNil, xLst, xTup, xDic, tCB, tCall, tChain, tSl, tPart, tNoPart, rI, rI0, rU, rEq, rNe, scal, rXL, rXT, rXQ, rLenL, rLenT, rLenS, rLenQ, rInt1, rTupL, rLstL, rIsN, rNotN, rInT, rAddS, rLtS, rInS1, rNinS1, rIxS, rSlS, rStL, rCt, rSL, tApp, tPopAt, tPopL, tJoinL, tIndex, xFld, xSet, xMeth, xMake, rGetS, rGetI, rInDS, rInDI, xPutS, xPutI, xGet2S, xGet2I, xPopI, rDctD, rLstD, rCatT, HO.ins.injEq, ixN0, ixN1, ixN2, ixN3, atI0, atI1, atI2, atI3, eqV_str, eqV_int, eqV_is, eqV_si, inV_nil, inV_cons, flatV, List.all_cons, List.all_nil, wd_eq, wd_ne0, wd_ne0', List.getElem?_cons_zero, List.getElem?_cons_succ, List.set_cons_zero, List.set_cons_succ, List.cons_append, List.nil_append, List.append_nil, Nat.reduceAdd, Nat.reduceLT, Option.some.injEq, V.int.injEq, V.str.injEq, V.bl.injEq, V.ref.injEq, HO.lst.injEq, HO.tup.injEq, HO.dK.injEq, List.cons.injEq, exists_eq_left, exists_eq_left', exists_eq_right, exists_eq_right', exists_and_left, exists_and_right, exists_const, exists_eq, exists_eq', and_assoc, true_and, and_true, false_and, and_false, true_or, or_true, false_or, or_false, reduceCtorEq, not_true_eq_false, not_false_eq_true, decide_true, decide_false, decide_eq_true_eq, decide_not, Bool.not_true, Bool.not_false, Bool.false_eq_true, Bool.true_and, Bool.and_true, Bool.false_and, Bool.and_false, Bool.true_or, Bool.or_true, Bool.false_or, Bool.or_false, if_true, if_false, ite_true, ite_false, Nat.reduceEqDiff, exists_false, eq_self, upd_same, Bool.not_eq_true', decide_eq_false_iff_not, f1.tu _ _ ha, h1]
      have L1 : xs1.length = e.code.length := by rw [t1.length, List.length_map]
      refine ⟨v1, b + xs1.length + 1, .row s1, by simp only [Int.natCast_add]; rfl, ts1.tups f1.tu, by simp only [Un.dp]; omega, ok.2.1, by simp only [Un.cnt]; omega, fun p2 xs2 H2 h2 t2 f2 => ?_⟩
      have L2 : xs2.length = (codeL s1 (b + e.code.length + 1)).length := by rw [t2.length, List.length_map, L1]; rfl
      unfold t_L_code_7; refine st_seq ?_
      simp only [tIfS, tRet, tRetN, tAsg, gName, gSub, gCons, gNil, gTup, tDrop, tNext, tVar, tC, tOp, tUn, tTest, tB, tAnd, tOr, tNot, tAndV, tOrV, tNotV, tIf, tCons, tNil, xLst, xTup, xDic, tCB, tCall, tChain, tSl, tPart, tNoPart, rI, rI0, rU, rEq, rNe, scal, rXL, rXT, rXQ, rLenL, rLenT, rLenS, rLenQ, rInt1, rTupL, rLstL, rIsN, rNotN, rInT, rAddS, rLtS, rInS1, rNinS1, rIxS, rSlS, rStL, rCt, rSL, tApp, tPopAt, tPopL, tJoinL, tIndex, xFld, xSet, xMeth, xMake, rGetS, rGetI, rInDS, rInDI, xPutS, xPutI, xGet2S, xGet2I, xPopI, rDctD, rLstD, rCatT, HO.ins.injEq, ixN0, ixN1, ixN2, ixN3, atI0, atI1, atI2, atI3, eqV_str, eqV_int, eqV_is, eqV_si, inV_nil, inV_cons, flatV, List.all_cons, List.all_nil, wd_eq, wd_ne0, wd_ne0', List.getElem?_cons_zero, List.getElem?_cons_succ, List.set_cons_zero, List.set_cons_succ, List.cons_append, List.nil_append, List.append_nil, Nat.reduceAdd, Nat.reduceLT, Option.some.injEq, V.int.injEq, V.str.injEq, V.bl.injEq, V.ref.injEq, HO.lst.injEq, HO.tup.injEq, HO.dK.injEq, List.cons.injEq, exists_eq_left, exists_eq_left', exists_eq_right, exists_eq_right', exists_and_left, exists_and_right, exists_const, exists_eq, exists_eq', and_assoc, true_and, and_true, false_and, and_false, true_or, or_true, false_or, or_false, reduceCtorEq, not_true_eq_false, not_false_eq_true, decide_true, decide_false, decide_eq_true_eq, decide_not, Bool.not_true, Bool.not_false, Bool.false_eq_true, Bool.true_and, Bool.and_true, Bool.false_and, Bool.and_false, Bool.true_or, Bool.or_true, Bool.false_or, Bool.or_false, if_true, if_false, ite_true, ite_false, Nat.reduceEqDiff, exists_false, eq_self, upd_same, Bool.not_eq_true', decide_eq_false_iff_not, f2.keep _ _ h1 (by simp), h2]
      unfold t_L_code_8; refine st_seq ?_
      simp only [tIfS, tRet, tRetN, tAsg, gName, gSub, gCons, gNil, gTup, tDrop, tNext, tVar, tC, tOp, tUn, tTest, tB, tAnd, tOr, tNot, tAndV, tOrV, tNotV, tIf, tCons, tNil, xLst, xTup, xDic, tCB, tCall, tChain, tSl, tPart, tNoPart, rI, rI0, rU, rEq, rNe, scal, rXL, rXT, rXQ, rLenL, rLenT, rLenS, rLenQ, rInt1, rTupL, rLstL, rIsN, rNotN, rInT, rAddS, rLtS, rInS1, rNinS1, rIxS, rSlS, rStL, rCt, rSL, tApp, tPopAt, tPopL, tJoinL, tIndex, xFld, xSet, xMeth, xMake, rGetS, rGetI, rInDS, rInDI, xPutS, xPutI, xGet2S, xGet2I, xPopI, rDctD, rLstD, rCatT, HO.ins.injEq, ixN0, ixN1, ixN2, ixN3, atI0, atI1, atI2, atI3, eqV_str, eqV_int, eqV_is, eqV_si, inV_nil, inV_cons, flatV, List.all_cons, List.all_nil, wd_eq, wd_ne0, wd_ne0', List.getElem?_cons_zero, List.getElem?_cons_succ, List.set_cons_zero, List.set_cons_succ, List.cons_append, List.nil_append, List.append_nil, Nat.reduceAdd, Nat.reduceLT, Option.some.injEq, V.int.injEq, V.str.injEq, V.bl.injEq, V.ref.injEq, HO.lst.injEq, HO.tup.injEq, HO.dK.injEq, List.cons.injEq, exists_eq_left, exists_eq_left', exists_eq_right, exists_eq_right', exists_and_left, exists_and_right, exists_const, exists_eq, exists_eq', and_assoc, true_and, and_true, false_and, and_false, true_or, or_true, false_or, or_false, reduceCtorEq, not_true_eq_false, not_false_eq_true, decide_true, decide_false, decide_eq_true_eq, decide_not, Bool.not_true, Bool.not_false, Bool.false_eq_true, Bool.true_and, Bool.and_true, Bool.false_and, Bool.and_false, Bool.true_or, Bool.or_true, Bool.false_or, Bool.or_false, if_true, if_false, ite_true, ite_false, Nat.reduceEqDiff, exists_false, eq_self, upd_same, Bool.not_eq_true', decide_eq_false_iff_not, f2.tu _ _ (f1.tu _ _ ha)]
      refine ⟨v2, b + xs1.length + xs2.length + 2, .row s2, by simp only [Int.natCast_add]; rfl, (ts2.tups f1.tu).tups f2.tu, by simp only [Un.dp]; omega, ok.2.2, by simp only [Un.cnt]; omega, fun p3 xs3 H3 h3 t3 f3 => ?_⟩
      have L3 : xs3.length = (codeL s2 (b + e.code.length + (codeL s1 (b + e.code.length + 1)).length + 2)).length := by rw [t3.length, List.length_map, L1, L2]; rfl
      simp only [tIfS, tRet, tRetN, tAsg, gName, gSub, gCons, gNil, gTup, tDrop, tNext, tVar, tC, tOp, tUn, tTest, tB, tAnd, tOr, tNot, tAndV, tOrV, tNotV, tIf, tCons, tNil, xLst, xTup, xDic, tCB, tCall, tChain, tSl, tPart, tNoPart, rI, rI0, rU, rEq, rNe, scal, rXL, rXT, rXQ, rLenL, rLenT, rLenS, rLenQ, rInt1, rTupL, rLstL, rIsN, rNotN, rInT, rAddS, rLtS, rInS1, rNinS1, rIxS, rSlS, rStL, rCt, rSL, tApp, tPopAt, tPopL, tJoinL, tIndex, xFld, xSet, xMeth, xMake, rGetS, rGetI, rInDS, rInDI, xPutS, xPutI, xGet2S, xGet2I, xPopI, rDctD, rLstD, rCatT, HO.ins.injEq, ixN0, ixN1, ixN2, ixN3, atI0, atI1, atI2, atI3, eqV_str, eqV_int, eqV_is, eqV_si, inV_nil, inV_cons, flatV, List.all_cons, List.all_nil, wd_eq, wd_ne0, wd_ne0', List.getElem?_cons_zero, List.getElem?_cons_succ, List.set_cons_zero, List.set_cons_succ, List.cons_append, List.nil_append, List.append_nil, Nat.reduceAdd, Nat.reduceLT, Option.some.injEq, V.int.injEq, V.str.injEq, V.bl.injEq, V.ref.injEq, HO.lst.injEq, HO.tup.injEq, HO.dK.injEq, List.cons.injEq, exists_eq_left, exists_eq_left', exists_eq_right, exists_eq_right', exists_and_left, exists_and_right, exists_const, exists_eq, exists_eq', and_assoc, true_and, and_true, false_and, and_false, true_or, or_true, false_or, or_false, reduceCtorEq, not_true_eq_false, not_false_eq_true, decide_true, decide_false, decide_eq_true_eq, decide_not, Bool.not_true, Bool.not_false, Bool.false_eq_true, Bool.true_and, Bool.and_true, Bool.false_and, Bool.and_false, Bool.true_or, Bool.or_true, Bool.false_or, Bool.or_false, if_true, if_false, ite_true, ite_false, Nat.reduceEqDiff, exists_false, eq_self, upd_same, Bool.not_eq_true', decide_eq_false_iff_not]
      refine ⟨(by simp only [List.length_cons, List.length_nil]; decide), fun q4 H4 A4 => ⟨(by simp only [List.length_cons, List.length_nil]; decide), fun q5 H5 A5 => ?_⟩⟩
      have B1 : xs1.length ≤ 1024 := by rw [L1]; exact Ex.len10 (Nat.le_trans hde (by decide))
      have B2 : xs2.length ≤ 700000 := by rw [L2]; exact code_bound (o := .row s1) ok.2.1 (by simp only [Un.cnt]; omega)
      have B3 : xs3.length ≤ 700000 := by rw [L3]; exact code_bound (o := .row s2) ok.2.2 (by simp only [Un.cnt]; omega)
      have f12 : Fr [] H1 H3 := f2.trans f3
      simp only [tIfS, tRet, tRetN, tAsg, gName, gSub, gCons, gNil, gTup, tDrop, tNext, tVar, tC, tOp, tUn, tTest, tB, tAnd, tOr, tNot, tAndV, tOrV, tNotV, tIf, tCons, tNil, xLst, xTup, xDic, tCB, tCall, tChain, tSl, tPart, tNoPart, rI, rI0, rU, rEq, rNe, scal, rXL, rXT, rXQ, rLenL, rLenT, rLenS, rLenQ, rInt1, rTupL, rLstL, rIsN, rNotN, rInT, rAddS, rLtS, rInS1, rNinS1, rIxS, rSlS, rStL, rCt, rSL, tApp, tPopAt, tPopL, tJoinL, tIndex, xFld, xSet, xMeth, xMake, rGetS, rGetI, rInDS, rInDI, xPutS, xPutI, xGet2S, xGet2I, xPopI, rDctD, rLstD, rCatT, HO.ins.injEq, ixN0, ixN1, ixN2, ixN3, atI0, atI1, atI2, atI3, eqV_str, eqV_int, eqV_is, eqV_si, inV_nil, inV_cons, flatV, List.all_cons, List.all_nil, wd_eq, wd_ne0, wd_ne0', List.getElem?_cons_zero, List.getElem?_cons_succ, List.set_cons_zero, List.set_cons_succ, List.cons_append, List.nil_append, List.append_nil, Nat.reduceAdd, Nat.reduceLT, Option.some.injEq, V.int.injEq, V.str.injEq, V.bl.injEq, V.ref.injEq, HO.lst.injEq, HO.tup.injEq, HO.dK.injEq, List.cons.injEq, exists_eq_left, exists_eq_left', exists_eq_right, exists_eq_right', exists_and_left, exists_and_right, exists_const, exists_eq, exists_eq', and_assoc, true_and, and_true, false_and, and_false, true_or, or_true, false_or, or_false, reduceCtorEq, not_true_eq_false, not_false_eq_true, decide_true, decide_false, decide_eq_true_eq, decide_not, Bool.not_true, Bool.not_false, Bool.false_eq_true, Bool.true_and, Bool.and_true, Bool.false_and, Bool.and_false, Bool.true_or, Bool.or_true, Bool.false_or, Bool.or_false, if_true, if_false, ite_true, ite_false, Nat.reduceEqDiff, exists_false, eq_self, upd_same, Bool.not_eq_true', decide_eq_false_iff_not, A5.at_, A5.k (A4.k (f12.keep _ _ h1 (by simp)))]
      refine ⟨big (by simp only [List.length_cons, List.length_nil]; omega), fun q6 H6 A6 => ?_⟩
      have f36 : Fr [] H3 H6 := (A4.fr.al A5).al A6
      simp only [tIfS, tRet, tRetN, tAsg, gName, gSub, gCons, gNil, gTup, tDrop, tNext, tVar, tC, tOp, tUn, tTest, tB, tAnd, tOr, tNot, tAndV, tOrV, tNotV, tIf, tCons, tNil, xLst, xTup, xDic, tCB, tCall, tChain, tSl, tPart, tNoPart, rI, rI0, rU, rEq, rNe, scal, rXL, rXT, rXQ, rLenL, rLenT, rLenS, rLenQ, rInt1, rTupL, rLstL, rIsN, rNotN, rInT, rAddS, rLtS, rInS1, rNinS1, rIxS, rSlS, rStL, rCt, rSL, tApp, tPopAt, tPopL, tJoinL, tIndex, xFld, xSet, xMeth, xMake, rGetS, rGetI, rInDS, rInDI, xPutS, xPutI, xGet2S, xGet2I, xPopI, rDctD, rLstD, rCatT, HO.ins.injEq, ixN0, ixN1, ixN2, ixN3, atI0, atI1, atI2, atI3, eqV_str, eqV_int, eqV_is, eqV_si, inV_nil, inV_cons, flatV, List.all_cons, List.all_nil, wd_eq, wd_ne0, wd_ne0', List.getElem?_cons_zero, List.getElem?_cons_succ, List.set_cons_zero, List.set_cons_succ, List.cons_append, List.nil_append, List.append_nil, Nat.reduceAdd, Nat.reduceLT, Option.some.injEq, V.int.injEq, V.str.injEq, V.bl.injEq, V.ref.injEq, HO.lst.injEq, HO.tup.injEq, HO.dK.injEq, List.cons.injEq, exists_eq_left, exists_eq_left', exists_eq_right, exists_eq_right', exists_and_left, exists_and_right, exists_const, exists_eq, exists_eq', and_assoc, true_and, and_true, false_and, and_false, true_or, or_true, false_or, or_false, reduceCtorEq, not_true_eq_false, not_false_eq_true, decide_true, decide_false, decide_eq_true_eq, decide_not, Bool.not_true, Bool.not_false, Bool.false_eq_true, Bool.true_and, Bool.and_true, Bool.false_and, Bool.and_false, Bool.true_or, Bool.or_true, Bool.false_or, Bool.or_false, if_true, if_false, ite_true, ite_false, Nat.reduceEqDiff, exists_false, eq_self, upd_same, Bool.not_eq_true', decide_eq_false_iff_not, A6.at_, (f3.trans f36).keep _ _ h2 (by simp)]
      refine ⟨big (by simp only [List.length_append, List.length_cons, List.length_nil]; omega), fun q7 H7 A7 => ?_⟩
      simp only [tIfS, tRet, tRetN, tAsg, gName, gSub, gCons, gNil, gTup, tDrop, tNext, tVar, tC, tOp, tUn, tTest, tB, tAnd, tOr, tNot, tAndV, tOrV, tNotV, tIf, tCons, tNil, xLst, xTup, xDic, tCB, tCall, tChain, tSl, tPart, tNoPart, rI, rI0, rU, rEq, rNe, scal, rXL, rXT, rXQ, rLenL, rLenT, rLenS, rLenQ, rInt1, rTupL, rLstL, rIsN, rNotN, rInT, rAddS, rLtS, rInS1, rNinS1, rIxS, rSlS, rStL, rCt, rSL, tApp, tPopAt, tPopL, tJoinL, tIndex, xFld, xSet, xMeth, xMake, rGetS, rGetI, rInDS, rInDI, xPutS, xPutI, xGet2S, xGet2I, xPopI, rDctD, rLstD, rCatT, HO.ins.injEq, ixN0, ixN1, ixN2, ixN3, atI0, atI1, atI2, atI3, eqV_str, eqV_int, eqV_is, eqV_si, inV_nil, inV_cons, flatV, List.all_cons, List.all_nil, wd_eq, wd_ne0, wd_ne0', List.getElem?_cons_zero, List.getElem?_cons_succ, List.set_cons_zero, List.set_cons_succ, List.cons_append, List.nil_append, List.append_nil, Nat.reduceAdd, Nat.reduceLT, Option.some.injEq, V.int.injEq, V.str.injEq, V.bl.injEq, V.ref.injEq, HO.lst.injEq, HO.tup.injEq, HO.dK.injEq, List.cons.injEq, exists_eq_left, exists_eq_left', exists_eq_right, exists_eq_right', exists_and_left, exists_and_right, exists_const, exists_eq, exists_eq', and_assoc, true_and, and_true, false_and, and_false, true_or, or_true, false_or, or_false, reduceCtorEq, not_true_eq_false, not_false_eq_true, decide_true, decide_false, decide_eq_true_eq, decide_not, Bool.not_true, Bool.not_false, Bool.false_eq_true, Bool.true_and, Bool.and_true, Bool.false_and, Bool.and_false, Bool.true_or, Bool.or_true, Bool.false_or, Bool.or_false, if_true, if_false, ite_true, ite_false, Nat.reduceEqDiff, exists_false, eq_self, upd_same, Bool.not_eq_true', decide_eq_false_iff_not, (f36.al A7).keep _ _ h3 (by simp)]
      refine ⟨(by simp only [List.length_cons, List.length_nil]; decide), fun q8 H8 A8 => ⟨(by simp only [List.length_cons, List.length_nil]; decide), fun q9 H9 A9 => ?_⟩⟩
      simp only [tIfS, tRet, tRetN, tAsg, gName, gSub, gCons, gNil, gTup, tDrop, tNext, tVar, tC, tOp, tUn, tTest, tB, tAnd, tOr, tNot, tAndV, tOrV, tNotV, tIf, tCons, tNil, xLst, xTup, xDic, tCB, tCall, tChain, tSl, tPart, tNoPart, rI, rI0, rU, rEq, rNe, scal, rXL, rXT, rXQ, rLenL, rLenT, rLenS, rLenQ, rInt1, rTupL, rLstL, rIsN, rNotN, rInT, rAddS, rLtS, rInS1, rNinS1, rIxS, rSlS, rStL, rCt, rSL, tApp, tPopAt, tPopL, tJoinL, tIndex, xFld, xSet, xMeth, xMake, rGetS, rGetI, rInDS, rInDI, xPutS, xPutI, xGet2S, xGet2I, xPopI, rDctD, rLstD, rCatT, HO.ins.injEq, ixN0, ixN1, ixN2, ixN3, atI0, atI1, atI2, atI3, eqV_str, eqV_int, eqV_is, eqV_si, inV_nil, inV_cons, flatV, List.all_cons, List.all_nil, wd_eq, wd_ne0, wd_ne0', List.getElem?_cons_zero, List.getElem?_cons_succ, List.set_cons_zero, List.set_cons_succ, List.cons_append, List.nil_append, List.append_nil, Nat.reduceAdd, Nat.reduceLT, Option.some.injEq, V.int.injEq, V.str.injEq, V.bl.injEq, V.ref.injEq, HO.lst.injEq, HO.tup.injEq, HO.dK.injEq, List.cons.injEq, exists_eq_left, exists_eq_left', exists_eq_right, exists_eq_right', exists_and_left, exists_and_right, exists_const, exists_eq, exists_eq', and_assoc, true_and, and_true, false_and, and_false, true_or, or_true, false_or, or_false, reduceCtorEq, not_true_eq_false, not_false_eq_true, decide_true, decide_false, decide_eq_true_eq, decide_not, Bool.not_true, Bool.not_false, Bool.false_eq_true, Bool.true_and, Bool.and_true, Bool.false_and, Bool.and_false, Bool.true_or, Bool.or_true, Bool.false_or, Bool.or_false, if_true, if_false, ite_true, ite_false, Nat.reduceEqDiff, exists_false, eq_self, upd_same, Bool.not_eq_true', decide_eq_false_iff_not, A9.at_, A9.k (A8.k A7.at_)]
      refine ⟨big (by simp only [List.length_append, List.length_cons, List.length_nil]; omega), fun q10 H10 A10 => ?_⟩
      have f310 : Fr [] H3 H10 := (((f36.al A7).al A8).al A9).al A10
      simp only [tIfS, tRet, tRetN, tAsg, gName, gSub, gCons, gNil, gTup, tDrop, tNext, tVar, tC, tOp, tUn, tTest, tB, tAnd, tOr, tNot, tAndV, tOrV, tNotV, tIf, tCons, tNil, xLst, xTup, xDic, tCB, tCall, tChain, tSl, tPart, tNoPart, rI, rI0, rU, rEq, rNe, scal, rXL, rXT, rXQ, rLenL, rLenT, rLenS, rLenQ, rInt1, rTupL, rLstL, rIsN, rNotN, rInT, rAddS, rLtS, rInS1, rNinS1, rIxS, rSlS, rStL, rCt, rSL, tApp, tPopAt, tPopL, tJoinL, tIndex, xFld, xSet, xMeth, xMake, rGetS, rGetI, rInDS, rInDI, xPutS, xPutI, xGet2S, xGet2I, xPopI, rDctD, rLstD, rCatT, HO.ins.injEq, ixN0, ixN1, ixN2, ixN3, atI0, atI1, atI2, atI3, eqV_str, eqV_int, eqV_is, eqV_si, inV_nil, inV_cons, flatV, List.all_cons, List.all_nil, wd_eq, wd_ne0, wd_ne0', List.getElem?_cons_zero, List.getElem?_cons_succ, List.set_cons_zero, List.set_cons_succ, List.cons_append, List.nil_append, List.append_nil, Nat.reduceAdd, Nat.reduceLT, Option.some.injEq, V.int.injEq, V.str.injEq, V.bl.injEq, V.ref.injEq, HO.lst.injEq, HO.tup.injEq, HO.dK.injEq, List.cons.injEq, exists_eq_left, exists_eq_left', exists_eq_right, exists_eq_right', exists_and_left, exists_and_right, exists_const, exists_eq, exists_eq', and_assoc, true_and, and_true, false_and, and_false, true_or, or_true, false_or, or_false, reduceCtorEq, not_true_eq_false, not_false_eq_true, decide_true, decide_false, decide_eq_true_eq, decide_not, Bool.not_true, Bool.not_false, Bool.false_eq_true, Bool.true_and, Bool.and_true, Bool.false_and, Bool.and_false, Bool.true_or, Bool.or_true, Bool.false_or, Bool.or_false, if_true, if_false, ite_true, ite_false, Nat.reduceEqDiff, exists_false, eq_self, upd_same, Bool.not_eq_true', decide_eq_false_iff_not, A10.at_, f310.keep _ _ h3 (by simp)]
      refine ⟨big (by simp only [List.length_append, List.length_cons, List.length_nil]; omega), fun q11 H11 A11 => ?_⟩
      refine k _ _ _ A11.at_ ?_ ((((f1.trans f2).trans f3).trans f310).al A11)
      have W : Tups H3 H11 := (f310.al A11).tu
      simp only [Un.code, Sm.code, List.map_append, List.map_cons, List.map_nil, Rw.d]
      refine TpL.append (TpL.append (TpL.append (TpL.append (t1.tups (f12.tu.trans W)) (.cons (.tup ((((((A5.tu.trans A6.tu).trans A7.tu).trans A8.tu).trans A9.tu).trans A10.tu).trans A11.tu |> fun z => z _ _ A4.at_) (.cons (.str _) (.cons ?_ .nil))) .nil)) ?_) (.cons (.tup (((A9.tu.trans A10.tu).trans A11.tu) _ _ A8.at_) (.cons (.str _) (.cons ?_ .nil))) .nil)) ?_
      · rw [tp_int, L1, L2]; simp only [Int.natCast_add]; rfl
      · have := t2.tups (f3.tu.trans W); rw [L1] at this; exact this
      · rw [tp_int, L3, L2, L1]; simp only [Int.natCast_add]; rfl
      · have := t3.tups W; rw [L1, L2] at this; exact this
    | whl e s1 =>
      obtain ⟨a, ve, v1, rfl, ha, te, ts1⟩ := tp_whl hv
      simp only [Un.dp, Sm.dp] at hd
      simp only [Un.cnt, Sm.cnt] at hc
      have hde := ok.1.2
      simp only [tIfS, tRet, tRetN, tAsg, gName, gSub, gCons, gNil, gTup, tDrop, tNext, tVar, tC, tOp, tUn, tTest, tB, tAnd, tOr, tNot, tAndV, tOrV, tNotV, tIf, tCons, tNil, xLst, xTup, xDic, tCB, tCall, tChain, tSl, tPart, tNoPart, rI, rI0, rU, rEq, rNe, scal, rXL, rXT, rXQ, rLenL, rLenT, rLenS, rLenQ, rInt1, rTupL, rLstL, rIsN, rNotN, rInT, rAddS, rLtS, rInS1, rNinS1, rIxS, rSlS, rStL, rCt, rSL, tApp, tPopAt, tPopL, tJoinL, tIndex, xFld, xSet, xMeth, xMake, rGetS, rGetI, rInDS, rInDI, xPutS, xPutI, xGet2S, xGet2I, xPopI, rDctD, rLstD, rCatT, HO.ins.injEq, ixN0, ixN1, ixN2, ixN3, atI0, atI1, atI2, atI3, eqV_str, eqV_int, eqV_is, eqV_si, inV_nil, inV_cons, flatV, List.all_cons, List.all_nil, wd_eq, wd_ne0, wd_ne0', List.getElem?_cons_zero, List.getElem?_cons_succ, List.set_cons_zero, List.set_cons_succ, List.cons_append, List.nil_append, List.append_nil, Nat.reduceAdd, Nat.reduceLT, Option.some.injEq, V.int.injEq, V.str.injEq, V.bl.injEq, V.ref.injEq, HO.lst.injEq, HO.tup.injEq, HO.dK.injEq, List.cons.injEq, exists_eq_left, exists_eq_left', exists_eq_right, exists_eq_right', exists_and_left, exists_and_right, exists_const, exists_eq, exists_eq', and_assoc, true_and, and_true, false_and, and_false, true_or, or_true, false_or, or_false, reduceCtorEq, not_true_eq_false, not_false_eq_true, decide_true, decide_false, decide_eq_true_eq, decide_not, Bool.not_true, Bool.not_false, Bool.false_eq_true, Bool.true_and, Bool.and_true, Bool.false_and, Bool.and_false, Bool.true_or, Bool.or_true, Bool.false_or, Bool.or_false, if_true, if_false, ite_true, ite_false, Nat.reduceEqDiff, exists_false, eq_self, upd_same, Bool.not_eq_true', decide_eq_false_iff_not, ha]
      unfold t_L_code_1; refine st_seq ?_
      simp only [tIfS, tRet, tRetN, tAsg, gName, gSub, gCons, gNil, gTup, tDrop, tNext, tVar, tC, tOp, tUn, tTest, tB, tAnd, tOr, tNot, tAndV, tOrV, tNotV, tIf, tCons, tNil, xLst, xTup, xDic, tCB, tCall, tChain, tSl, tPart, tNoPart, rI, rI0, rU, rEq, rNe, scal, rXL, rXT, rXQ, rLenL, rLenT, rLenS, rLenQ, rInt1, rTupL, rLstL, rIsN, rNotN, rInT, rAddS, rLtS, rInS1, rNinS1, rIxS, rSlS, rStL, rCt, rSL, tApp, tPopAt, tPopL, tJoinL, tIndex, xFld, xSet, xMeth, xMake, rGetS, rGetI, rInDS, rInDI, xPutS, xPutI, xGet2S, xGet2I, xPopI, rDctD, rLstD, rCatT, HO.ins.injEq, ixN0, ixN1, ixN2, ixN3, atI0, atI1, atI2, atI3, eqV_str, eqV_int, eqV_is, eqV_si, inV_nil, inV_cons, flatV, List.all_cons, List.all_nil, wd_eq, wd_ne0, wd_ne0', List.getElem?_cons_zero, List.getElem?_cons_succ, List.set_cons_zero, List.set_cons_succ, List.cons_append, List.nil_append, List.append_nil, Nat.reduceAdd, Nat.reduceLT, Option.some.injEq, V.int.injEq, V.str.injEq, V.bl.injEq, V.ref.injEq, HO.lst.injEq, HO.tup.injEq, HO.dK.injEq, List.cons.injEq, exists_eq_left, exists_eq_left', exists_eq_right, exists_eq_right', exists_and_left, exists_and_right, exists_const, exists_eq, exists_eq', and_assoc, true_and, and_true, false_and, and_false, true_or, or_true, false_or, or_false, reduceCtorEq, not_true_eq_false, not_false_eq_true, decide_true, decide_false, decide_eq_true_eq, decide_not, Bool.not_true, Bool.not_false, Bool.false_eq_true, Bool.true_and, Bool.and_true, Bool.false_and, Bool.and_false, Bool.true_or, Bool.or_true, Bool.false_or, Bool.or_false, if_true, if_false, ite_true, ite_false, Nat.reduceEqDiff, exists_false, eq_self, upd_same, Bool.not_eq_true', decide_eq_false_iff_not]
      unfold t_L_code_2; refine st_seq ?_
      simp only [tIfS, tRet, tRetN, tAsg, gName, gSub, gCons, gNil, gTup, tDrop, tNext, tVar, tC, tOp, tUn, tTest, tB, tAnd, tOr, tNot, tAndV, tOrV, tNotV, tIf, tCons, tNil, xLst, xTup, xDic, tCB, tCall, tChain, tSl, tPart, tNoPart, rI, rI0, rU, rEq, rNe, scal, rXL, rXT, rXQ, rLenL, rLenT, rLenS, rLenQ, rInt1, rTupL, rLstL, rIsN, rNotN, rInT, rAddS, rLtS, rInS1, rNinS1, rIxS, rSlS, rStL, rCt, rSL, tApp, tPopAt, tPopL, tJoinL, tIndex, xFld, xSet, xMeth, xMake, rGetS, rGetI, rInDS, rInDI, xPutS, xPutI, xGet2S, xGet2I, xPopI, rDctD, rLstD, rCatT, HO.ins.injEq, ixN0, ixN1, ixN2, ixN3, atI0, atI1, atI2, atI3, eqV_str, eqV_int, eqV_is, eqV_si, inV_nil, inV_cons, flatV, List.all_cons, List.all_nil, wd_eq, wd_ne0, wd_ne0', List.getElem?_cons_zero, List.getElem?_cons_succ, List.set_cons_zero, List.set_cons_succ, List.cons_append, List.nil_append, List.append_nil, Nat.reduceAdd, Nat.reduceLT, Option.some.injEq, V.int.injEq, V.str.injEq, V.bl.injEq, V.ref.injEq, HO.lst.injEq, HO.tup.injEq, HO.dK.injEq, List.cons.injEq, exists_eq_left, exists_eq_left', exists_eq_right, exists_eq_right', exists_and_left, exists_and_right, exists_const, exists_eq, exists_eq', and_assoc, true_and, and_true, false_and, and_false, true_or, or_true, false_or, or_false, reduceCtorEq, not_true_eq_false, not_false_eq_true, decide_true, decide_false, decide_eq_true_eq, decide_not, Bool.not_true, Bool.not_false, Bool.false_eq_true, Bool.true_and, Bool.and_true, Bool.false_and, Bool.and_false, Bool.true_or, Bool.or_true, Bool.false_or, Bool.or_false, if_true, if_false, ite_true, ite_false, Nat.reduceEqDiff, exists_false, eq_self, upd_same, Bool.not_eq_true', decide_eq_false_iff_not]
      unfold t_L_code_3; refine st_seq ?_
      simp only [tIfS, tRet, tRetN, tAsg, gName, gSub, gCons, gNil, gTup, tDrop, tNext, tVar, tC, tOp, tUn, tTest, tB, tAnd, tOr, tNot, tAndV, tOrV, tNotV, tIf, tCons, tNil, xLst, xTup, xDic, tCB, tCall, tChain, tSl, tPart, tNoPart, rI, rI0, rU, rEq, rNe, scal, rXL, rXT, rXQ, rLenL, rLenT, rLenS, rLenQ, rInt1, rTupL, rLstL, rIsN, rNotN, rInT, rAddS, rLtS, rInS1, rNinS1, rIxS, rSlS, rStL, rCt, rSL, tApp, tPopAt, tPopL, tJoinL, tIndex, xFld, xSet, xMeth, xMake, rGetS, rGetI, rInDS, rInDI, xPutS, xPutI, xGet2S, xGet2I, xPopI, rDctD, rLstD, rCatT, HO.ins.injEq, ixN0, ixN1, ixN2, ixN3, atI0, atI1, atI2, atI3, eqV_str, eqV_int, eqV_is, eqV_si, inV_nil, inV_cons, flatV, List.all_cons, List.all_nil, wd_eq, wd_ne0, wd_ne0', List.getElem?_cons_zero, List.getElem?_cons_succ, List.set_cons_zero, List.set_cons_succ, List.cons_append, List.nil_append, List.append_nil, Nat.reduceAdd, Nat.reduceLT, Option.some.injEq, V.int.injEq, V.str.injEq, V.bl.injEq, V.ref.injEq, HO.lst.injEq, HO.tup.injEq, HO.dK.injEq, List.cons.injEq, exists_eq_left, exists_eq_left', exists_eq_right, exists_eq_right', exists_and_left, exists_and_right, exists_const, exists_eq, exists_eq', and_assoc, true_and, and_true, false_and, and_false, true_or, or_true, false_or, or_false, reduceCtorEq, not_true_eq_false, not_false_eq_true, decide_true, decide_false, decide_eq_true_eq, decide_not, Bool.not_true, Bool.not_false, Bool.false_eq_true, Bool.true_and, Bool.and_true, Bool.false_and, Bool.and_false, Bool.true_or, Bool.or_true, Bool.false_or, Bool.or_false, if_true, if_false, ite_true, ite_false, Nat.reduceEqDiff, exists_false, eq_self, upd_same, Bool.not_eq_true', decide_eq_false_iff_not]
      unfold t_L_code_4; refine st_seq ?_
      simp only [tIfS, tRet, tRetN, tAsg, gName, gSub, gCons, gNil, gTup, tDrop, tNext, tVar, tC, tOp, tUn, tTest, tB, tAnd, tOr, tNot, tAndV, tOrV, tNotV, tIf, tCons, tNil, xLst, xTup, xDic, tCB, tCall, tChain, tSl, tPart, tNoPart, rI, rI0, rU, rEq, rNe, scal, rXL, rXT, rXQ, rLenL, rLenT, rLenS, rLenQ, rInt1, rTupL, rLstL, rIsN, rNotN, rInT, rAddS, rLtS, rInS1, rNinS1, rIxS, rSlS, rStL, rCt, rSL, tApp, tPopAt, tPopL, tJoinL, tIndex, xFld, xSet, xMeth, xMake, rGetS, rGetI, rInDS, rInDI, xPutS, xPutI, xGet2S, xGet2I, xPopI, rDctD, rLstD, rCatT, HO.ins.injEq, ixN0, ixN1, ixN2, ixN3, atI0, atI1, atI2, atI3, eqV_str, eqV_int, eqV_is, eqV_si, inV_nil, inV_cons, flatV, List.all_cons, List.all_nil, wd_eq, wd_ne0, wd_ne0', List.getElem?_cons_zero, List.getElem?_cons_succ, List.set_cons_zero, List.set_cons_succ, List.cons_append, List.nil_append, List.append_nil, Nat.reduceAdd, Nat.reduceLT, Option.some.injEq, V.int.injEq, V.str.injEq, V.bl.injEq, V.ref.injEq, HO.lst.injEq, HO.tup.injEq, HO.dK.injEq, List.cons.injEq, exists_eq_left, exists_eq_left', exists_eq_right, exists_eq_right', exists_and_left, exists_and_right, exists_const, exists_eq, exists_eq', and_assoc, true_and, and_true, false_and, and_false, true_or, or_true, false_or, or_false, reduceCtorEq, not_true_eq_false, not_false_eq_true, decide_true, decide_false, decide_eq_true_eq, decide_not, Bool.not_true, Bool.not_false, Bool.false_eq_true, Bool.true_and, Bool.and_true, Bool.false_and, Bool.and_false, Bool.true_or, Bool.or_true, Bool.false_or, Bool.or_false, if_true, if_false, ite_true, ite_false, Nat.reduceEqDiff, exists_false, eq_self, upd_same, Bool.not_eq_true', decide_eq_false_iff_not, ha]
      refine ⟨ve, e, rfl, te, Nat.le_trans hde (by decide), Nat.le_trans hde (by decide), fun p1 xs1 H1 h1 t1 f1 => ?_⟩
      unfold t_L_code_5; refine st_seq ?_
      simp only [tIfS, tRet, tRetN, tAsg, gName, gSub, gCons, gNil, gTup, tDrop, tNext, tVar, tC, tOp, tUn, tTest, tB, tAnd, tOr, tNot, tAndV, tOrV, tNotV, tIf, tCons, tNil, xLst, xTup, xDic, tCB, tCall, tChain, tSl, tPart, tNoPart, rI, rI0, rU, rEq, rNe, scal, rXL, rXT, rXQ, rLenL, rLenT, rLenS, rLenQ, rInt1, rTupL, rLstL, rIsN, rNotN, rInT, rAddS, rLtS, rInS1, rNinS1, rIxS, rSlS, rStL, rCt, rSL, tApp, tPopAt, tPopL, tJoinL, tIndex, xFld, xSet, xMeth, xMake, rGetS, rGetI, rInDS, rInDI, xPutS, xPutI, xGet2S, xGet2I, xPopI, rDctD, rLstD, rCatT, HO.ins.injEq, ixN0, ixN1, ixN2, ixN3, atI0, atI1, atI2, atI3, eqV_str, eqV_int, eqV_is, eqV_si, inV_nil, inV_cons, flatV, List.all_cons, List.all_nil, wd_eq, wd_ne0, wd_ne0', List.getElem?_cons_zero, List.getElem?_cons_succ, List.set_cons_zero, List.set_cons_succ, List.cons_append, List.nil_append, List.append_nil, Nat.reduceAdd, Nat.reduceLT, Option.some.injEq, V.int.injEq, V.str.injEq, V.bl.injEq, V.ref.injEq, HO.lst.injEq, HO.tup.injEq, HO.dK.injEq, List.cons.injEq, exists_eq_left, exists_eq_left', exists_eq_right, exists_eq_right', exists_and_left, exists_and_right, exists_const, exists_eq, exists_eq', and_assoc, true_and, and_true, false_and, and_false, true_or, or_true, false_or, or_false, reduceCtorEq, not_true_eq_false, not_false_eq_true, decide_true, decide_false, decide_eq_true_eq, decide_not, Bool.not_true, Bool.not_false, Bool.false_eq_true, Bool.true_and, Bool.and_true, Bool.false_and, Bool.and_false, Bool.true_or, Bool.or_true, Bool.false_or, Bool.or_false, if_true, if_false, ite_true, ite_false, Nat.reduceEqDiff, exists_false, eq_self, upd_same, Bool.not_eq_true', decide_eq_false_iff_not]
      refine st_seq ?_
      simp only [tIfS, tRet, tRetN, tAsg, gName, gSub, gCons, gNil, gTup, tDrop, tNext, tVar, tC, tOp, tUn, tTest, tB, tAnd, tOr, tNot, tAndV, tOrV, tNotV, tIf, tCons, tNil, xLst, xTup, xDic, tCB, tCall, tChain, tSl, tPart, tNoPart, rI, rI0, rU, rEq, rNe, scal, rXL, rXT, rXQ, rLenL, rLenT, rLenS, rLenQ, rInt1, rTupL, rLstL, rIsN, rNotN, rInT, rAddS, rLtS, rInS1, rNinS1, rIxS, rSlS, rStL, rCt, rSL, tApp, tPopAt, tPopL, tJoinL, tIndex, xFld, xSet, xMeth, xMake, rGetS, rGetI, rInDS, rInDI, xPutS, xPutI, xGet2S, xGet2I, xPopI, rDctD, rLstD, rCatT, HO.ins.injEq, ixN0, ixN1, ixN2, ixN3, atI0, atI1, atI2, atI3, eqV_str, eqV_int, eqV_is, eqV_si, inV_nil, inV_cons, flatV, List.all_cons, List.all_nil, wd_eq, wd_ne0, wd_ne0', List.getElem?_cons_zero, List.getElem?_cons_succ, List.set_cons_zero, List.set_cons_succ, List.cons_append, List.nil_append, List.append_nil, Nat.reduceAdd, Nat.reduceLT, Option.some.injEq, V.int.injEq, V.str.injEq, V.bl.injEq, V.ref.injEq, HO.lst.injEq, HO.tup.injEq, HO.dK.injEq, List.cons.injEq, exists_eq_left, exists_eq_left', exists_eq_right, exists_eq_right', exists_and_left, exists_and_right, exists_const, exists_eq, exists_eq', and_assoc, true_and, and_true, false_and, and_false, true_or, or_true, false_or, or_false, reduceCtorEq, not_true_eq_false, not_false_eq_true, decide_true, decide_false, decide_eq_true_eq, decide_not, Bool.not_true, Bool.not_false, Bool.false_eq_true, Bool.true_and, Bool.and_true, Bool.false_and, Bool.and_false, Bool.true_or, Bool.or_true, Bool.false_or, Bool.or_false, if_true, if_false, ite_true, ite_false, Nat.reduceEqDiff, exists_false, eq_self, upd_same, Bool.not_eq_true', decide_eq_false_iff_not, f1.tu _ _ ha, h1]
      have L1 : xs1.length = e.code.length := by rw [t1.length, List.length_map]
      refine ⟨v1, b + xs1.length + 2, .row s1, by simp only [Int.natCast_add]; rfl, ts1.tups f1.tu, by simp only [Un.dp]; omega, ok.2, by simp only [Un.cnt]; omega, fun p2 xs2 H2 h2 t2 f2 => ?_⟩
      have L2 : xs2.length = (codeL s1 (b + e.code.length + 2)).length := by rw [t2.length, List.length_map, L1]; rfl
      refine st_seq ?_
      simp only [tIfS, tRet, tRetN, tAsg, gName, gSub, gCons, gNil, gTup, tDrop, tNext, tVar, tC, tOp, tUn, tTest, tB, tAnd, tOr, tNot, tAndV, tOrV, tNotV, tIf, tCons, tNil, xLst, xTup, xDic, tCB, tCall, tChain, tSl, tPart, tNoPart, rI, rI0, rU, rEq, rNe, scal, rXL, rXT, rXQ, rLenL, rLenT, rLenS, rLenQ, rInt1, rTupL, rLstL, rIsN, rNotN, rInT, rAddS, rLtS, rInS1, rNinS1, rIxS, rSlS, rStL, rCt, rSL, tApp, tPopAt, tPopL, tJoinL, tIndex, xFld, xSet, xMeth, xMake, rGetS, rGetI, rInDS, rInDI, xPutS, xPutI, xGet2S, xGet2I, xPopI, rDctD, rLstD, rCatT, HO.ins.injEq, ixN0, ixN1, ixN2, ixN3, atI0, atI1, atI2, atI3, eqV_str, eqV_int, eqV_is, eqV_si, inV_nil, inV_cons, flatV, List.all_cons, List.all_nil, wd_eq, wd_ne0, wd_ne0', List.getElem?_cons_zero, List.getElem?_cons_succ, List.set_cons_zero, List.set_cons_succ, List.cons_append, List.nil_append, List.append_nil, Nat.reduceAdd, Nat.reduceLT, Option.some.injEq, V.int.injEq, V.str.injEq, V.bl.injEq, V.ref.injEq, HO.lst.injEq, HO.tup.injEq, HO.dK.injEq, List.cons.injEq, exists_eq_left, exists_eq_left', exists_eq_right, exists_eq_right', exists_and_left, exists_and_right, exists_const, exists_eq, exists_eq', and_assoc, true_and, and_true, false_and, and_false, true_or, or_true, false_or, or_false, reduceCtorEq, not_true_eq_false, not_false_eq_true, decide_true, decide_false, decide_eq_true_eq, decide_not, Bool.not_true, Bool.not_false, Bool.false_eq_true, Bool.true_and, Bool.and_true, Bool.false_and, Bool.and_false, Bool.true_or, Bool.or_true, Bool.false_or, Bool.or_false, if_true, if_false, ite_true, ite_false, Nat.reduceEqDiff, exists_false, eq_self, upd_same, Bool.not_eq_true', decide_eq_false_iff_not, f2.keep _ _ h1 (by simp), h2]
      have B1 : xs1.length ≤ 1024 := by rw [L1]; exact Ex.len10 (Nat.le_trans hde (by decide))
      have B2 : xs2.length ≤ 700000 := by rw [L2]; exact code_bound (o := .row s1) ok.2 (by simp only [Un.cnt]; omega)
      refine ⟨(by simp only [List.length_cons, List.length_nil]; decide), fun q3 H3 A3 => ⟨(by simp only [List.length_cons, List.length_nil]; decide), fun q4 H4 A4 => ?_⟩⟩
      have f24 : Fr [] H2 H4 := A3.fr.al A4
      simp only [tIfS, tRet, tRetN, tAsg, gName, gSub, gCons, gNil, gTup, tDrop, tNext, tVar, tC, tOp, tUn, tTest, tB, tAnd, tOr, tNot, tAndV, tOrV, tNotV, tIf, tCons, tNil, xLst, xTup, xDic, tCB, tCall, tChain, tSl, tPart, tNoPart, rI, rI0, rU, rEq, rNe, scal, rXL, rXT, rXQ, rLenL, rLenT, rLenS, rLenQ, rInt1, rTupL, rLstL, rIsN, rNotN, rInT, rAddS, rLtS, rInS1, rNinS1, rIxS, rSlS, rStL, rCt, rSL, tApp, tPopAt, tPopL, tJoinL, tIndex, xFld, xSet, xMeth, xMake, rGetS, rGetI, rInDS, rInDI, xPutS, xPutI, xGet2S, xGet2I, xPopI, rDctD, rLstD, rCatT, HO.ins.injEq, ixN0, ixN1, ixN2, ixN3, atI0, atI1, atI2, atI3, eqV_str, eqV_int, eqV_is, eqV_si, inV_nil, inV_cons, flatV, List.all_cons, List.all_nil, wd_eq, wd_ne0, wd_ne0', List.getElem?_cons_zero, List.getElem?_cons_succ, List.set_cons_zero, List.set_cons_succ, List.cons_append, List.nil_append, List.append_nil, Nat.reduceAdd, Nat.reduceLT, Option.some.injEq, V.int.injEq, V.str.injEq, V.bl.injEq, V.ref.injEq, HO.lst.injEq, HO.tup.injEq, HO.dK.injEq, List.cons.injEq, exists_eq_left, exists_eq_left', exists_eq_right, exists_eq_right', exists_and_left, exists_and_right, exists_const, exists_eq, exists_eq', and_assoc, true_and, and_true, false_and, and_false, true_or, or_true, false_or, or_false, reduceCtorEq, not_true_eq_false, not_false_eq_true, decide_true, decide_false, decide_eq_true_eq, decide_not, Bool.not_true, Bool.not_false, Bool.false_eq_true, Bool.true_and, Bool.and_true, Bool.false_and, Bool.and_false, Bool.true_or, Bool.or_true, Bool.false_or, Bool.or_false, if_true, if_false, ite_true, ite_false, Nat.reduceEqDiff, exists_false, eq_self, upd_same, Bool.not_eq_true', decide_eq_false_iff_not, A4.at_, (f2.trans f24).keep _ _ h1 (by simp)]
      refine ⟨big (by simp only [List.length_cons, List.length_nil]; omega), fun q5 H5 A5 => ⟨(by simp only [List.length_cons, List.length_nil]; decide), fun q6 H6 A6 => ⟨(by simp only [List.length_cons, List.length_nil]; decide), fun q7 H7 A7 => ?_⟩⟩⟩
      simp only [tIfS, tRet, tRetN, tAsg, gName, gSub, gCons, gNil, gTup, tDrop, tNext, tVar, tC, tOp, tUn, tTest, tB, tAnd, tOr, tNot, tAndV, tOrV, tNotV, tIf, tCons, tNil, xLst, xTup, xDic, tCB, tCall, tChain, tSl, tPart, tNoPart, rI, rI0, rU, rEq, rNe, scal, rXL, rXT, rXQ, rLenL, rLenT, rLenS, rLenQ, rInt1, rTupL, rLstL, rIsN, rNotN, rInT, rAddS, rLtS, rInS1, rNinS1, rIxS, rSlS, rStL, rCt, rSL, tApp, tPopAt, tPopL, tJoinL, tIndex, xFld, xSet, xMeth, xMake, rGetS, rGetI, rInDS, rInDI, xPutS, xPutI, xGet2S, xGet2I, xPopI, rDctD, rLstD, rCatT, HO.ins.injEq, ixN0, ixN1, ixN2, ixN3, atI0, atI1, atI2, atI3, eqV_str, eqV_int, eqV_is, eqV_si, inV_nil, inV_cons, flatV, List.all_cons, List.all_nil, wd_eq, wd_ne0, wd_ne0', List.getElem?_cons_zero, List.getElem?_cons_succ, List.set_cons_zero, List.set_cons_succ, List.cons_append, List.nil_append, List.append_nil, Nat.reduceAdd, Nat.reduceLT, Option.some.injEq, V.int.injEq, V.str.injEq, V.bl.injEq, V.ref.injEq, HO.lst.injEq, HO.tup.injEq, HO.dK.injEq, List.cons.injEq, exists_eq_left, exists_eq_left', exists_eq_right, exists_eq_right', exists_and_left, exists_and_right, exists_const, exists_eq, exists_eq', and_assoc, true_and, and_true, false_and, and_false, true_or, or_true, false_or, or_false, reduceCtorEq, not_true_eq_false, not_false_eq_true, decide_true, decide_false, decide_eq_true_eq, decide_not, Bool.not_true, Bool.not_false, Bool.false_eq_true, Bool.true_and, Bool.and_true, Bool.false_and, Bool.and_false, Bool.true_or, Bool.or_true, Bool.false_or, Bool.or_false, if_true, if_false, ite_true, ite_false, Nat.reduceEqDiff, exists_false, eq_self, upd_same, Bool.not_eq_true', decide_eq_false_iff_not, A7.at_, A7.k (A6.k A5.at_)]
      refine ⟨big (by simp only [List.length_append, List.length_cons, List.length_nil]; omega), fun q8 H8 A8 => ?_⟩
      have f28 : Fr [] H2 H8 := (((f24.al A5).al A6).al A7).al A8
      simp only [tIfS, tRet, tRetN, tAsg, gName, gSub, gCons, gNil, gTup, tDrop, tNext, tVar, tC, tOp, tUn, tTest, tB, tAnd, tOr, tNot, tAndV, tOrV, tNotV, tIf, tCons, tNil, xLst, xTup, xDic, tCB, tCall, tChain, tSl, tPart, tNoPart, rI, rI0, rU, rEq, rNe, scal, rXL, rXT, rXQ, rLenL, rLenT, rLenS, rLenQ, rInt1, rTupL, rLstL, rIsN, rNotN, rInT, rAddS, rLtS, rInS1, rNinS1, rIxS, rSlS, rStL, rCt, rSL, tApp, tPopAt, tPopL, tJoinL, tIndex, xFld, xSet, xMeth, xMake, rGetS, rGetI, rInDS, rInDI, xPutS, xPutI, xGet2S, xGet2I, xPopI, rDctD, rLstD, rCatT, HO.ins.injEq, ixN0, ixN1, ixN2, ixN3, atI0, atI1, atI2, atI3, eqV_str, eqV_int, eqV_is, eqV_si, inV_nil, inV_cons, flatV, List.all_cons, List.all_nil, wd_eq, wd_ne0, wd_ne0', List.getElem?_cons_zero, List.getElem?_cons_succ, List.set_cons_zero, List.set_cons_succ, List.cons_append, List.nil_append, List.append_nil, Nat.reduceAdd, Nat.reduceLT, Option.some.injEq, V.int.injEq, V.str.injEq, V.bl.injEq, V.ref.injEq, HO.lst.injEq, HO.tup.injEq, HO.dK.injEq, List.cons.injEq, exists_eq_left, exists_eq_left', exists_eq_right, exists_eq_right', exists_and_left, exists_and_right, exists_const, exists_eq, exists_eq', and_assoc, true_and, and_true, false_and, and_false, true_or, or_true, false_or, or_false, reduceCtorEq, not_true_eq_false, not_false_eq_true, decide_true, decide_false, decide_eq_true_eq, decide_not, Bool.not_true, Bool.not_false, Bool.false_eq_true, Bool.true_and, Bool.and_true, Bool.false_and, Bool.and_false, Bool.true_or, Bool.or_true, Bool.false_or, Bool.or_false, if_true, if_false, ite_true, ite_false, Nat.reduceEqDiff, exists_false, eq_self, upd_same, Bool.not_eq_true', decide_eq_false_iff_not, A8.at_, f28.keep _ _ h2 (by simp)]
      refine ⟨big (by simp only [List.length_append, List.length_cons, List.length_nil]; omega), fun q9 H9 A9 => ⟨(by simp only [List.length_cons, List.length_nil]; decide), fun q10 H10 A10 => ⟨(by simp only [List.length_cons, List.length_nil]; decide), fun q11 H11 A11 => ?_⟩⟩⟩
      simp only [tIfS, tRet, tRetN, tAsg, gName, gSub, gCons, gNil, gTup, tDrop, tNext, tVar, tC, tOp, tUn, tTest, tB, tAnd, tOr, tNot, tAndV, tOrV, tNotV, tIf, tCons, tNil, xLst, xTup, xDic, tCB, tCall, tChain, tSl, tPart, tNoPart, rI, rI0, rU, rEq, rNe, scal, rXL, rXT, rXQ, rLenL, rLenT, rLenS, rLenQ, rInt1, rTupL, rLstL, rIsN, rNotN, rInT, rAddS, rLtS, rInS1, rNinS1, rIxS, rSlS, rStL, rCt, rSL, tApp, tPopAt, tPopL, tJoinL, tIndex, xFld, xSet, xMeth, xMake, rGetS, rGetI, rInDS, rInDI, xPutS, xPutI, xGet2S, xGet2I, xPopI, rDctD, rLstD, rCatT, HO.ins.injEq, ixN0, ixN1, ixN2, ixN3, atI0, atI1, atI2, atI3, eqV_str, eqV_int, eqV_is, eqV_si, inV_nil, inV_cons, flatV, List.all_cons, List.all_nil, wd_eq, wd_ne0, wd_ne0', List.getElem?_cons_zero, List.getElem?_cons_succ, List.set_cons_zero, List.set_cons_succ, List.cons_append, List.nil_append, List.append_nil, Nat.reduceAdd, Nat.reduceLT, Option.some.injEq, V.int.injEq, V.str.injEq, V.bl.injEq, V.ref.injEq, HO.lst.injEq, HO.tup.injEq, HO.dK.injEq, List.cons.injEq, exists_eq_left, exists_eq_left', exists_eq_right, exists_eq_right', exists_and_left, exists_and_right, exists_const, exists_eq, exists_eq', and_assoc, true_and, and_true, false_and, and_false, true_or, or_true, false_or, or_false, reduceCtorEq, not_true_eq_false, not_false_eq_true, decide_true, decide_false, decide_eq_true_eq, decide_not, Bool.not_true, Bool.not_false, Bool.false_eq_true, Bool.true_and, Bool.and_true, Bool.false_and, Bool.and_false, Bool.true_or, Bool.or_true, Bool.false_or, Bool.or_false, if_true, if_false, ite_true, ite_false, Nat.reduceEqDiff, exists_false, eq_self, upd_same, Bool.not_eq_true', decide_eq_false_iff_not, A11.at_, A11.k (A10.k A9.at_)]
      refine ⟨big (by simp only [List.length_append, List.length_cons, List.length_nil]; omega), fun q12 H12 A12 => ?_⟩
      have f212 : Fr [] H2 H12 := (((f28.al A9).al A10).al A11).al A12
      refine k _ _ _ A12.at_ ?_ ((f1.trans f2).trans f212)
      simp only [Un.code, Sm.code, List.map_append, List.map_cons, List.map_nil, Rw.d]
      have W3 : Tups H3 H12 := (((((((A4.tu.trans A5.tu).trans A6.tu).trans A7.tu).trans A8.tu).trans A9.tu).trans A10.tu).trans A11.tu).trans A12.tu
      refine TpL.append (TpL.append (TpL.append (TpL.append (.cons (.tup (W3 _ _ A3.at_) (.cons (.str _) .nil)) .nil) (t1.tups (f2.tu.trans f212.tu))) (.cons (.tup ((((((A7.tu.trans A8.tu).trans A9.tu).trans A10.tu).trans A11.tu).trans A12.tu) _ _ A6.at_) (.cons (.str _) (.cons ?_ .nil))) .nil)) ?_) (.cons (.tup ((A11.tu.trans A12.tu) _ _ A10.at_) (.cons (.str _) (.cons (.int _) .nil))) .nil)
      · rw [tp_int, L2, L1]; simp only [Int.natCast_add]; rfl
      · have := t2.tups f212.tu; rw [L1] at this; exact this
theorem rd_L_coded {K : PySem.W.Frag} {vs : List V} {H : Hp} {Q : VK} {E : XK} (h : sp_L_coded vs H Q E) : t_L_coded K { nx := fun _ H' => Q .non H', rt := Q } (start ["_"] vs) H := by
  obtain ⟨v, p, rfl, hv, ⟨ok, hd, hc⟩, k⟩ := h
  show t_L_coded K _ [some v] H
  unfold t_L_coded
  simp only [tIfS, tRet, tRetN, tAsg, gName, gSub, gCons, gNil, gTup, tDrop, tNext, tVar, tC, tOp, tUn, tTest, tB, tAnd, tOr, tNot, tAndV, tOrV, tNotV, tIf, tCons, tNil, xLst, xTup, xDic, tCB, tCall, tChain, tSl, tPart, tNoPart, rI, rI0, rU, rEq, rNe, scal, rXL, rXT, rXQ, rLenL, rLenT, rLenS, rLenQ, rInt1, rTupL, rLstL, rIsN, rNotN, rInT, rAddS, rLtS, rInS1, rNinS1, rIxS, rSlS, rStL, rCt, rSL, tApp, tPopAt, tPopL, tJoinL, tIndex, xFld, xSet, xMeth, xMake, rGetS, rGetI, rInDS, rInDI, xPutS, xPutI, xGet2S, xGet2I, xPopI, rDctD, rLstD, rCatT, HO.ins.injEq, ixN0, ixN1, ixN2, ixN3, atI0, atI1, atI2, atI3, eqV_str, eqV_int, eqV_is, eqV_si, inV_nil, inV_cons, flatV, List.all_cons, List.all_nil, wd_eq, wd_ne0, wd_ne0', List.getElem?_cons_zero, List.getElem?_cons_succ, List.set_cons_zero, List.set_cons_succ, List.cons_append, List.nil_append, List.append_nil, Nat.reduceAdd, Nat.reduceLT, Option.some.injEq, V.int.injEq, V.str.injEq, V.bl.injEq, V.ref.injEq, HO.lst.injEq, HO.tup.injEq, HO.dK.injEq, List.cons.injEq, exists_eq_left, exists_eq_left', exists_eq_right, exists_eq_right', exists_and_left, exists_and_right, exists_const, exists_eq, exists_eq', and_assoc, true_and, and_true, false_and, and_false, true_or, or_true, false_or, or_false, reduceCtorEq, not_true_eq_false, not_false_eq_true, decide_true, decide_false, decide_eq_true_eq, decide_not, Bool.not_true, Bool.not_false, Bool.false_eq_true, Bool.true_and, Bool.and_true, Bool.false_and, Bool.and_false, Bool.true_or, Bool.or_true, Bool.false_or, Bool.or_false, if_true, if_false, ite_true, ite_false, Nat.reduceEqDiff, exists_false, eq_self, upd_same, Bool.not_eq_true', decide_eq_false_iff_not]
  refine ⟨v, 0, .row p, rfl, hv, by simp only [Un.dp]; omega, ok, hc, fun a xs H1 h1 t1 f1 => ?_⟩
  simp only [tIfS, tRet, tRetN, tAsg, gName, gSub, gCons, gNil, gTup, tDrop, tNext, tVar, tC, tOp, tUn, tTest, tB, tAnd, tOr, tNot, tAndV, tOrV, tNotV, tIf, tCons, tNil, xLst, xTup, xDic, tCB, tCall, tChain, tSl, tPart, tNoPart, rI, rI0, rU, rEq, rNe, scal, rXL, rXT, rXQ, rLenL, rLenT, rLenS, rLenQ, rInt1, rTupL, rLstL, rIsN, rNotN, rInT, rAddS, rLtS, rInS1, rNinS1, rIxS, rSlS, rStL, rCt, rSL, tApp, tPopAt, tPopL, tJoinL, tIndex, xFld, xSet, xMeth, xMake, rGetS, rGetI, rInDS, rInDI, xPutS, xPutI, xGet2S, xGet2I, xPopI, rDctD, rLstD, rCatT, HO.ins.injEq, ixN0, ixN1, ixN2, ixN3, atI0, atI1, atI2, atI3, eqV_str, eqV_int, eqV_is, eqV_si, inV_nil, inV_cons, flatV, List.all_cons, List.all_nil, wd_eq, wd_ne0, wd_ne0', List.getElem?_cons_zero, List.getElem?_cons_succ, List.set_cons_zero, List.set_cons_succ, List.cons_append, List.nil_append, List.append_nil, Nat.reduceAdd, Nat.reduceLT, Option.some.injEq, V.int.injEq, V.str.injEq, V.bl.injEq, V.ref.injEq, HO.lst.injEq, HO.tup.injEq, HO.dK.injEq, List.cons.injEq, exists_eq_left, exists_eq_left', exists_eq_right, exists_eq_right', exists_and_left, exists_and_right, exists_const, exists_eq, exists_eq', and_assoc, true_and, and_true, false_and, and_false, true_or, or_true, false_or, or_false, reduceCtorEq, not_true_eq_false, not_false_eq_true, decide_true, decide_false, decide_eq_true_eq, decide_not, Bool.not_true, Bool.not_false, Bool.false_eq_true, Bool.true_and, Bool.and_true, Bool.false_and, Bool.and_false, Bool.true_or, Bool.or_true, Bool.false_or, Bool.or_false, if_true, if_false, ite_true, ite_false, Nat.reduceEqDiff, exists_false, eq_self, upd_same, Bool.not_eq_true', decide_eq_false_iff_not]
  refine ⟨(by simp only [List.length_cons, List.length_nil]; decide), fun q2 H2 A2 => ⟨(by simp only [List.length_cons, List.length_nil]; decide), fun q3 H3 A3 => ?_⟩⟩
  simp only [tIfS, tRet, tRetN, tAsg, gName, gSub, gCons, gNil, gTup, tDrop, tNext, tVar, tC, tOp, tUn, tTest, tB, tAnd, tOr, tNot, tAndV, tOrV, tNotV, tIf, tCons, tNil, xLst, xTup, xDic, tCB, tCall, tChain, tSl, tPart, tNoPart, rI, rI0, rU, rEq, rNe, scal, rXL, rXT, rXQ, rLenL, rLenT, rLenS, rLenQ, rInt1, rTupL, rLstL, rIsN, rNotN, rInT, rAddS, rLtS, rInS1, rNinS1, rIxS, rSlS, rStL, rCt, rSL, tApp, tPopAt, tPopL, tJoinL, tIndex, xFld, xSet, xMeth, xMake, rGetS, rGetI, rInDS, rInDI, xPutS, xPutI, xGet2S, xGet2I, xPopI, rDctD, rLstD, rCatT, HO.ins.injEq, ixN0, ixN1, ixN2, ixN3, atI0, atI1, atI2, atI3, eqV_str, eqV_int, eqV_is, eqV_si, inV_nil, inV_cons, flatV, List.all_cons, List.all_nil, wd_eq, wd_ne0, wd_ne0', List.getElem?_cons_zero, List.getElem?_cons_succ, List.set_cons_zero, List.set_cons_succ, List.cons_append, List.nil_append, List.append_nil, Nat.reduceAdd, Nat.reduceLT, Option.some.injEq, V.int.injEq, V.str.injEq, V.bl.injEq, V.ref.injEq, HO.lst.injEq, HO.tup.injEq, HO.dK.injEq, List.cons.injEq, exists_eq_left, exists_eq_left', exists_eq_right, exists_eq_right', exists_and_left, exists_and_right, exists_const, exists_eq, exists_eq', and_assoc, true_and, and_true, false_and, and_false, true_or, or_true, false_or, or_false, reduceCtorEq, not_true_eq_false, not_false_eq_true, decide_true, decide_false, decide_eq_true_eq, decide_not, Bool.not_true, Bool.not_false, Bool.false_eq_true, Bool.true_and, Bool.and_true, Bool.false_and, Bool.and_false, Bool.true_or, Bool.or_true, Bool.false_or, Bool.or_false, if_true, if_false, ite_true, ite_false, Nat.reduceEqDiff, exists_false, eq_self, upd_same, Bool.not_eq_true', decide_eq_false_iff_not, A3.at_, A3.k (A2.k h1)]
  have B1 : xs.length ≤ 700000 := by rw [t1.length, List.length_map]; exact code_bound ok hc
  refine ⟨big (by simp only [List.length_cons, List.length_nil]; omega), fun q4 H4 A4 => ?_⟩
  simp only [tIfS, tRet, tRetN, tAsg, gName, gSub, gCons, gNil, gTup, tDrop, tNext, tVar, tC, tOp, tUn, tTest, tB, tAnd, tOr, tNot, tAndV, tOrV, tNotV, tIf, tCons, tNil, xLst, xTup, xDic, tCB, tCall, tChain, tSl, tPart, tNoPart, rI, rI0, rU, rEq, rNe, scal, rXL, rXT, rXQ, rLenL, rLenT, rLenS, rLenQ, rInt1, rTupL, rLstL, rIsN, rNotN, rInT, rAddS, rLtS, rInS1, rNinS1, rIxS, rSlS, rStL, rCt, rSL, tApp, tPopAt, tPopL, tJoinL, tIndex, xFld, xSet, xMeth, xMake, rGetS, rGetI, rInDS, rInDI, xPutS, xPutI, xGet2S, xGet2I, xPopI, rDctD, rLstD, rCatT, HO.ins.injEq, ixN0, ixN1, ixN2, ixN3, atI0, atI1, atI2, atI3, eqV_str, eqV_int, eqV_is, eqV_si, inV_nil, inV_cons, flatV, List.all_cons, List.all_nil, wd_eq, wd_ne0, wd_ne0', List.getElem?_cons_zero, List.getElem?_cons_succ, List.set_cons_zero, List.set_cons_succ, List.cons_append, List.nil_append, List.append_nil, Nat.reduceAdd, Nat.reduceLT, Option.some.injEq, V.int.injEq, V.str.injEq, V.bl.injEq, V.ref.injEq, HO.lst.injEq, HO.tup.injEq, HO.dK.injEq, List.cons.injEq, exists_eq_left, exists_eq_left', exists_eq_right, exists_eq_right', exists_and_left, exists_and_right, exists_const, exists_eq, exists_eq', and_assoc, true_and, and_true, false_and, and_false, true_or, or_true, false_or, or_false, reduceCtorEq, not_true_eq_false, not_false_eq_true, decide_true, decide_false, decide_eq_true_eq, decide_not, Bool.not_true, Bool.not_false, Bool.false_eq_true, Bool.true_and, Bool.and_true, Bool.false_and, Bool.and_false, Bool.true_or, Bool.or_true, Bool.false_or, Bool.or_false, if_true, if_false, ite_true, ite_false, Nat.reduceEqDiff, exists_false, eq_self, upd_same, Bool.not_eq_true', decide_eq_false_iff_not, A4.at_]
  intro q5 H5 A5
  refine k _ _ (.tup A5.at_ ?_) ((((f1.al A2).al A3).al A4).al A5)
  unfold progC
  simp only [List.map_append, List.map_cons, List.map_nil]
  exact TpL.append ((((t1.tups A2.tu).tups A3.tu).tups A4.tu).tups A5.tu) (.cons (.tup (A5.k (A4.k (A3.k A2.at_))) (.cons (.str _) .nil)) .nil)
end Hn

namespace Hn
open PySem PySem.Spec PyProof.Rows L2
/-- Coder.__init__ -/
def t_Coder___init__ (K : PySem.W.Frag) (c : CA) : TS :=
  (xSet c.coder (tVar 0) (xLst tNil) ("made" : Str))

/-- Coder.put -/
def t_Coder_put (K : PySem.W.Frag) (c : CA) : TS :=
  (tSeq (tDrop (tApp (xFld c.coder (tVar 0) ("made" : Str)) (tVar 1)))
    (tRet (tOp (rI0 fun i j => .int (i - j)) (tCB rLenL (tCons (xFld c.coder (tVar 0) ("made" : Str)) tNil)) (tC (.int 1)))))

/-- Coder.part -/
def t_Coder_part (K : PySem.W.Frag) (c : CA) (n : Nat) : TS :=
  (tIfS (tTest (tOp (rInT false) (tOp rXT (tVar 1) (tC (.int 0))) (xTup (tCons (tC (.str (wd 0))) (tCons (tC (.str (wd 1))) (tCons (tC (.str (wd 2))) tNil)))))) (tDrop (xMeth c.coder ("put" : Str) (sp_Coder_put c) (tVar 0) (tCons (tVar 1) tNil))) (tSeq (tDrop (xMeth c.coder ("part" : Str) (sp_Coder_part c n) (tVar 0) (tCons (tOp rXT (tVar 1) (tC (.int 1))) tNil)))
    (tSeq (tDrop (xMeth c.coder ("part" : Str) (sp_Coder_part c n) (tVar 0) (tCons (tOp rXT (tVar 1) (tC (.int 2))) tNil)))
    (tDrop (xMeth c.coder ("put" : Str) (sp_Coder_put c) (tVar 0) (tCons (xTup (tCons (tOp rXT (tVar 1) (tC (.int 0))) tNil)) tNil))))))

/-- Coder.lay -/
def t_Coder_lay (K : PySem.W.Frag) (c : CA) (n : Nat) : TS :=
  (tSeq (tAsg (tOp rXT (tVar 1) (tC (.int 0))) (gName 2))
    (tIfS (tTest (tOp rEq (tVar 2) (tC (.str (wd 13))))) (tFor (iTup K (tOp rXT (tVar 1) (tC (.int 1)))) (gName 3)
    (tDrop (xMeth c.coder ("lay" : Str) (sp_Coder_lay c n) (tVar 0) (tCons (tVar 3) tNil)))) (tIfS (tTest (tOp rEq (tVar 2) (tC (.str (wd 7))))) (tSeq (tDrop (xMeth c.coder ("part" : Str) (sp_Coder_part c 7) (tVar 0) (tCons (tOp rXT (tVar 1) (tC (.int 1))) tNil)))
    (tDrop (xMeth c.coder ("put" : Str) (sp_Coder_put c) (tVar 0) (tCons (xTup (tCons (tC (.str (wd 7))) tNil)) tNil)))) (tIfS (tTest (tOp rEq (tVar 2) (tC (.str (wd 8))))) (tSeq (tDrop (xMeth c.coder ("part" : Str) (sp_Coder_part c 7) (tVar 0) (tCons (tOp rXT (tVar 1) (tC (.int 2))) tNil)))
    (tDrop (xMeth c.coder ("put" : Str) (sp_Coder_put c) (tVar 0) (tCons (xTup (tCons (tC (.str (wd 8))) (tCons (tOp rXT (tVar 1) (tC (.int 1))) tNil))) tNil)))) (tIfS (tTest (tOp rEq (tVar 2) (tC (.str (wd 14))))) (tDrop (xMeth c.coder ("choice" : Str) (sp_Coder_choice c n) (tVar 0) (tCons (tVar 1) tNil))) (tDrop (xMeth c.coder ("loop" : Str) (sp_Coder_loop c n) (tVar 0) (tCons (tVar 1) tNil))))))))

/-- Coder.choice from 5 -/
def t_Coder_choice_5 (K : PySem.W.Frag) (c : CA) (n : Nat) : TS :=
  (tSeq (tDrop (xMeth c.coder ("lay" : Str) (sp_Coder_lay c n) (tVar 0) (tCons (tOp rXT (tVar 1) (tC (.int 3))) tNil)))
    (tAsg (xTup (tCons (tC (.str (wd 10))) (tCons (tCB rLenL (tCons (xFld c.coder (tVar 0) ("made" : Str)) tNil)) tNil))) (gSub (xFld c.coder (tVar 0) ("made" : Str)) (tVar 3) rStL)))

/-- Coder.choice from 4 -/
def t_Coder_choice_4 (K : PySem.W.Frag) (c : CA) (n : Nat) : TS :=
  tSeq (tAsg (xTup (tCons (tC (.str (wd 9))) (tCons (tCB rLenL (tCons (xFld c.coder (tVar 0) ("made" : Str)) tNil)) tNil))) (gSub (xFld c.coder (tVar 0) ("made" : Str)) (tVar 2) rStL)) (t_Coder_choice_5 K c n)

/-- Coder.choice from 3 -/
def t_Coder_choice_3 (K : PySem.W.Frag) (c : CA) (n : Nat) : TS :=
  tSeq (tAsg (xMeth c.coder ("put" : Str) (sp_Coder_put c) (tVar 0) (tCons (xTup (tCons (tC (.str (wd 10))) (tCons (tC (.int 0)) tNil))) tNil)) (gName 3)) (t_Coder_choice_4 K c n)

/-- Coder.choice from 2 -/
def t_Coder_choice_2 (K : PySem.W.Frag) (c : CA) (n : Nat) : TS :=
  tSeq (tDrop (xMeth c.coder ("lay" : Str) (sp_Coder_lay c n) (tVar 0) (tCons (tOp rXT (tVar 1) (tC (.int 2))) tNil))) (t_Coder_choice_3 K c n)

/-- Coder.choice from 1 -/
def t_Coder_choice_1 (K : PySem.W.Frag) (c : CA) (n : Nat) : TS :=
  tSeq (tAsg (xMeth c.coder ("put" : Str) (sp_Coder_put c) (tVar 0) (tCons (xTup (tCons (tC (.str (wd 9))) (tCons (tC (.int 0)) tNil))) tNil)) (gName 2)) (t_Coder_choice_2 K c n)

/-- Coder.choice -/
def t_Coder_choice (K : PySem.W.Frag) (c : CA) (n : Nat) : TS :=
  tSeq (tDrop (xMeth c.coder ("part" : Str) (sp_Coder_part c 7) (tVar 0) (tCons (tOp rXT (tVar 1) (tC (.int 1))) tNil))) (t_Coder_choice_1 K c n)

/-- Coder.loop from 4 -/
def t_Coder_loop_4 (K : PySem.W.Frag) (c : CA) (n : Nat) : TS :=
  (tSeq (tDrop (xMeth c.coder ("put" : Str) (sp_Coder_put c) (tVar 0) (tCons (xTup (tCons (tC (.str (wd 10))) (tCons (tVar 2) tNil))) tNil)))
    (tAsg (xTup (tCons (tC (.str (wd 9))) (tCons (tCB rLenL (tCons (xFld c.coder (tVar 0) ("made" : Str)) tNil)) tNil))) (gSub (xFld c.coder (tVar 0) ("made" : Str)) (tVar 3) rStL)))

/-- Coder.loop from 3 -/
def t_Coder_loop_3 (K : PySem.W.Frag) (c : CA) (n : Nat) : TS :=
  tSeq (tDrop (xMeth c.coder ("lay" : Str) (sp_Coder_lay c n) (tVar 0) (tCons (tOp rXT (tVar 1) (tC (.int 2))) tNil))) (t_Coder_loop_4 K c n)

/-- Coder.loop from 2 -/
def t_Coder_loop_2 (K : PySem.W.Frag) (c : CA) (n : Nat) : TS :=
  tSeq (tAsg (xMeth c.coder ("put" : Str) (sp_Coder_put c) (tVar 0) (tCons (xTup (tCons (tC (.str (wd 9))) (tCons (tC (.int 0)) tNil))) tNil)) (gName 3)) (t_Coder_loop_3 K c n)

/-- Coder.loop from 1 -/
def t_Coder_loop_1 (K : PySem.W.Frag) (c : CA) (n : Nat) : TS :=
  tSeq (tDrop (xMeth c.coder ("part" : Str) (sp_Coder_part c 7) (tVar 0) (tCons (tOp rXT (tVar 1) (tC (.int 1))) tNil))) (t_Coder_loop_2 K c n)

/-- Coder.loop -/
def t_Coder_loop (K : PySem.W.Frag) (c : CA) (n : Nat) : TS :=
  tSeq (tAsg (xMeth c.coder ("put" : Str) (sp_Coder_put c) (tVar 0) (tCons (xTup (tCons (tC (.str (wd 11))) tNil)) tNil)) (gName 2)) (t_Coder_loop_1 K c n)

/-- coded from 2 -/
def t_coded_2 (K : PySem.W.Frag) (c : CA) : TS :=
  (tSeq (tDrop (xMeth c.coder ("put" : Str) (sp_Coder_put c) (tVar 1) (tCons (xTup (tCons (tC (.str (wd 12))) tNil)) tNil)))
    (tRet (tCB rTupL (tCons (xFld c.coder (tVar 1) ("made" : Str)) tNil))))

/-- coded from 1 -/
def t_coded_1 (K : PySem.W.Frag) (c : CA) : TS :=
  tSeq (tDrop (xMeth c.coder ("lay" : Str) (sp_Coder_lay c 30) (tVar 1) (tCons (tVar 0) tNil))) (t_coded_2 K c)

/-- coded -/
def t_coded (K : PySem.W.Frag) (c : CA) : TS :=
  tSeq (tAsg (xMake c.coder (sp_Coder___init__ c) tNil) (gName 1)) (t_coded_1 K c)

section
variable {v : V}
theorem lk_made : List.lookup ("made" : Str) [(("made" : Str), v)] = some v := rfl
theorem lk_m_put : List.lookup ("put" : Str) [(("made" : Str), v)] = none := rfl
theorem lk_m_part : List.lookup ("part" : Str) [(("made" : Str), v)] = none := rfl
theorem lk_m_lay : List.lookup ("lay" : Str) [(("made" : Str), v)] = none := rfl
theorem lk_m_choice : List.lookup ("choice" : Str) [(("made" : Str), v)] = none := rfl
theorem lk_m_loop : List.lookup ("loop" : Str) [(("made" : Str), v)] = none := rfl
end
theorem rd_Coder___init__ {K : PySem.W.Frag} {c : CA} {vs : List V} {H : Hp} {Q : VK} {E : XK} (h : sp_Coder___init__ c vs H Q E) : t_Coder___init__ K c { nx := fun _ H' => Q .non H', rt := Q } (start ["_"] vs) H := by
  obtain ⟨o, dx, rfl, ho, k⟩ := h
  show t_Coder___init__ K c _ [some (.ref o)] H
  unfold t_Coder___init__
  simp only [tIfS, tRet, tRetN, tAsg, gName, gSub, gCons, gNil, gTup, tDrop, tNext, tVar, tC, tOp, tUn, tTest, tB, tAnd, tOr, tNot, tAndV, tOrV, tNotV, tIf, tCons, tNil, xLst, xTup, xDic, tCB, tCall, tChain, tSl, tPart, tNoPart, rI, rI0, rU, rEq, rNe, scal, rXL, rXT, rXQ, rLenL, rLenT, rLenS, rLenQ, rInt1, rTupL, rLstL, rIsN, rNotN, rInT, rAddS, rLtS, rInS1, rNinS1, rIxS, rSlS, rStL, rCt, rSL, tApp, tPopAt, tPopL, tJoinL, tIndex, xFld, xSet, xMeth, xMake, rGetS, rGetI, rInDS, rInDI, xPutS, xPutI, xGet2S, xGet2I, xPopI, rDctD, rLstD, rCatT, HO.ins.injEq, ixN0, ixN1, ixN2, ixN3, atI0, atI1, atI2, atI3, eqV_str, eqV_int, eqV_is, eqV_si, inV_nil, inV_cons, flatV, List.all_cons, List.all_nil, wd_eq, wd_ne0, wd_ne0', List.getElem?_cons_zero, List.getElem?_cons_succ, List.set_cons_zero, List.set_cons_succ, List.cons_append, List.nil_append, List.append_nil, Nat.reduceAdd, Nat.reduceLT, Option.some.injEq, V.int.injEq, V.str.injEq, V.bl.injEq, V.ref.injEq, HO.lst.injEq, HO.tup.injEq, HO.dK.injEq, List.cons.injEq, exists_eq_left, exists_eq_left', exists_eq_right, exists_eq_right', exists_and_left, exists_and_right, exists_const, exists_eq, exists_eq', and_assoc, true_and, and_true, false_and, and_false, true_or, or_true, false_or, or_false, reduceCtorEq, not_true_eq_false, not_false_eq_true, decide_true, decide_false, decide_eq_true_eq, decide_not, Bool.not_true, Bool.not_false, Bool.false_eq_true, Bool.true_and, Bool.and_true, Bool.false_and, Bool.and_false, Bool.true_or, Bool.or_true, Bool.false_or, Bool.or_false, if_true, if_false, ite_true, ite_false, Nat.reduceEqDiff, exists_false, eq_self, upd_same, Bool.not_eq_true', decide_eq_false_iff_not]
  refine ⟨(by simp only [List.length_cons, List.length_nil]; decide), fun p H1 A1 => ?_⟩
  simp only [tIfS, tRet, tRetN, tAsg, gName, gSub, gCons, gNil, gTup, tDrop, tNext, tVar, tC, tOp, tUn, tTest, tB, tAnd, tOr, tNot, tAndV, tOrV, tNotV, tIf, tCons, tNil, xLst, xTup, xDic, tCB, tCall, tChain, tSl, tPart, tNoPart, rI, rI0, rU, rEq, rNe, scal, rXL, rXT, rXQ, rLenL, rLenT, rLenS, rLenQ, rInt1, rTupL, rLstL, rIsN, rNotN, rInT, rAddS, rLtS, rInS1, rNinS1, rIxS, rSlS, rStL, rCt, rSL, tApp, tPopAt, tPopL, tJoinL, tIndex, xFld, xSet, xMeth, xMake, rGetS, rGetI, rInDS, rInDI, xPutS, xPutI, xGet2S, xGet2I, xPopI, rDctD, rLstD, rCatT, HO.ins.injEq, ixN0, ixN1, ixN2, ixN3, atI0, atI1, atI2, atI3, eqV_str, eqV_int, eqV_is, eqV_si, inV_nil, inV_cons, flatV, List.all_cons, List.all_nil, wd_eq, wd_ne0, wd_ne0', List.getElem?_cons_zero, List.getElem?_cons_succ, List.set_cons_zero, List.set_cons_succ, List.cons_append, List.nil_append, List.append_nil, Nat.reduceAdd, Nat.reduceLT, Option.some.injEq, V.int.injEq, V.str.injEq, V.bl.injEq, V.ref.injEq, HO.lst.injEq, HO.tup.injEq, HO.dK.injEq, List.cons.injEq, exists_eq_left, exists_eq_left', exists_eq_right, exists_eq_right', exists_and_left, exists_and_right, exists_const, exists_eq, exists_eq', and_assoc, true_and, and_true, false_and, and_false, true_or, or_true, false_or, or_false, reduceCtorEq, not_true_eq_false, not_false_eq_true, decide_true, decide_false, decide_eq_true_eq, decide_not, Bool.not_true, Bool.not_false, Bool.false_eq_true, Bool.true_and, Bool.and_true, Bool.false_and, Bool.and_false, Bool.true_or, Bool.or_true, Bool.false_or, Bool.or_false, if_true, if_false, ite_true, ite_false, Nat.reduceEqDiff, exists_false, eq_self, upd_same, Bool.not_eq_true', decide_eq_false_iff_not, A1.k ho]
  refine ⟨by decide, fun H2 M2 => ?_⟩
  refine k p H2 A1.new ⟨⟨_, M2.at_⟩, M2.k A1.at_ ?_⟩ ((A1.fr).mu M2 (by simp))
  exact fun e => ne_of_none ho A1.new e.symm
theorem rd_Coder_put {K : PySem.W.Frag} {c : CA} {vs : List V} {H : Hp} {Q : VK} {E : XK} (h : sp_Coder_put c vs H Q E) : t_Coder_put K c { nx := fun _ H' => Q .non H', rt := Q } (start ["_", "_"] vs) H := by
  obtain ⟨o, m, v, xs, rfl, ⟨⟨dx, ho⟩, hm⟩, hl, k⟩ := h
  show t_Coder_put K c _ [some (.ref o), some v] H
  unfold t_Coder_put; refine st_seq ?_
  simp only [tIfS, tRet, tRetN, tAsg, gName, gSub, gCons, gNil, gTup, tDrop, tNext, tVar, tC, tOp, tUn, tTest, tB, tAnd, tOr, tNot, tAndV, tOrV, tNotV, tIf, tCons, tNil, xLst, xTup, xDic, tCB, tCall, tChain, tSl, tPart, tNoPart, rI, rI0, rU, rEq, rNe, scal, rXL, rXT, rXQ, rLenL, rLenT, rLenS, rLenQ, rInt1, rTupL, rLstL, rIsN, rNotN, rInT, rAddS, rLtS, rInS1, rNinS1, rIxS, rSlS, rStL, rCt, rSL, tApp, tPopAt, tPopL, tJoinL, tIndex, xFld, xSet, xMeth, xMake, rGetS, rGetI, rInDS, rInDI, xPutS, xPutI, xGet2S, xGet2I, xPopI, rDctD, rLstD, rCatT, HO.ins.injEq, ixN0, ixN1, ixN2, ixN3, atI0, atI1, atI2, atI3, eqV_str, eqV_int, eqV_is, eqV_si, inV_nil, inV_cons, flatV, List.all_cons, List.all_nil, wd_eq, wd_ne0, wd_ne0', List.getElem?_cons_zero, List.getElem?_cons_succ, List.set_cons_zero, List.set_cons_succ, List.cons_append, List.nil_append, List.append_nil, Nat.reduceAdd, Nat.reduceLT, Option.some.injEq, V.int.injEq, V.str.injEq, V.bl.injEq, V.ref.injEq, HO.lst.injEq, HO.tup.injEq, HO.dK.injEq, List.cons.injEq, exists_eq_left, exists_eq_left', exists_eq_right, exists_eq_right', exists_and_left, exists_and_right, exists_const, exists_eq, exists_eq', and_assoc, true_and, and_true, false_and, and_false, true_or, or_true, false_or, or_false, reduceCtorEq, not_true_eq_false, not_false_eq_true, decide_true, decide_false, decide_eq_true_eq, decide_not, Bool.not_true, Bool.not_false, Bool.false_eq_true, Bool.true_and, Bool.and_true, Bool.false_and, Bool.and_false, Bool.true_or, Bool.or_true, Bool.false_or, Bool.or_false, if_true, if_false, ite_true, ite_false, Nat.reduceEqDiff, exists_false, eq_self, upd_same, Bool.not_eq_true', decide_eq_false_iff_not, ho, lk_made, hm]
  refine ⟨bigL (by omega), fun H2 M2 => ?_⟩
  have ne : o ≠ m := ne_of ho hm (by simp)
  simp only [tIfS, tRet, tRetN, tAsg, gName, gSub, gCons, gNil, gTup, tDrop, tNext, tVar, tC, tOp, tUn, tTest, tB, tAnd, tOr, tNot, tAndV, tOrV, tNotV, tIf, tCons, tNil, xLst, xTup, xDic, tCB, tCall, tChain, tSl, tPart, tNoPart, rI, rI0, rU, rEq, rNe, scal, rXL, rXT, rXQ, rLenL, rLenT, rLenS, rLenQ, rInt1, rTupL, rLstL, rIsN, rNotN, rInT, rAddS, rLtS, rInS1, rNinS1, rIxS, rSlS, rStL, rCt, rSL, tApp, tPopAt, tPopL, tJoinL, tIndex, xFld, xSet, xMeth, xMake, rGetS, rGetI, rInDS, rInDI, xPutS, xPutI, xGet2S, xGet2I, xPopI, rDctD, rLstD, rCatT, HO.ins.injEq, ixN0, ixN1, ixN2, ixN3, atI0, atI1, atI2, atI3, eqV_str, eqV_int, eqV_is, eqV_si, inV_nil, inV_cons, flatV, List.all_cons, List.all_nil, wd_eq, wd_ne0, wd_ne0', List.getElem?_cons_zero, List.getElem?_cons_succ, List.set_cons_zero, List.set_cons_succ, List.cons_append, List.nil_append, List.append_nil, Nat.reduceAdd, Nat.reduceLT, Option.some.injEq, V.int.injEq, V.str.injEq, V.bl.injEq, V.ref.injEq, HO.lst.injEq, HO.tup.injEq, HO.dK.injEq, List.cons.injEq, exists_eq_left, exists_eq_left', exists_eq_right, exists_eq_right', exists_and_left, exists_and_right, exists_const, exists_eq, exists_eq', and_assoc, true_and, and_true, false_and, and_false, true_or, or_true, false_or, or_false, reduceCtorEq, not_true_eq_false, not_false_eq_true, decide_true, decide_false, decide_eq_true_eq, decide_not, Bool.not_true, Bool.not_false, Bool.false_eq_true, Bool.true_and, Bool.and_true, Bool.false_and, Bool.and_false, Bool.true_or, Bool.or_true, Bool.false_or, Bool.or_false, if_true, if_false, ite_true, ite_false, Nat.reduceEqDiff, exists_false, eq_self, upd_same, Bool.not_eq_true', decide_eq_false_iff_not, M2.k ho ne, lk_made, M2.at_]
  have e : ((xs ++ [v]).length : Int) - 1 = xs.length := by simp
  rw [e]
  exact k _ ⟨⟨dx, M2.k ho ne⟩, M2.at_⟩ (M2.fr (by simp))
theorem CoderAt.new {c : CA} {H H' : Hp} {o m : Addr} {xs : List V} {S : List Addr} (h : CoderAt c H o m xs) (f : Fr S H H') (ho : o ∉ S) (hm : m ∉ S) : CoderAt c H' o m xs := by
  obtain ⟨⟨dx, h1⟩, h2⟩ := h
  exact ⟨⟨dx, f.keep _ _ h1 ho⟩, f.keep _ _ h2 hm⟩
theorem rd_Coder_part {K : PySem.W.Frag} {c : CA} {n : Nat} {vs : List V} {H : Hp} {Q : VK} {E : XK} (h : sp_Coder_part c (n + 1) vs H Q E) : t_Coder_part K c n { nx := fun _ H' => Q .non H', rt := Q } (start ["_", "_"] vs) H := by
  obtain ⟨o, m, v, xs, rs, e, rfl, ⟨⟨dx, ho⟩, hm⟩, hx, hv, hd, hl, k⟩ := h
  show t_Coder_part K c n _ [some (.ref o), some v] H
  unfold t_Coder_part
  have L : xs.length = rs.length := by rw [hx.length, List.length_map]
  have leaf : ∀ (a : Addr) (i : Nat) (y : V) (rw_ : Rw), i < 3 → e.code = [rw_] → v = .ref a → H a = some (.tup [.str (wd i), y]) → Tp H rw_.d v → tIfS (tTest (tOp (rInT false) (tOp rXT (tVar 1) (tC (.int 0))) (xTup (tCons (tC (.str (wd 0))) (tCons (tC (.str (wd 1))) (tCons (tC (.str (wd 2))) tNil)))))) (tDrop (xMeth c.coder ("put" : Str) (sp_Coder_put c) (tVar 0) (tCons (tVar 1) tNil))) (tSeq (tDrop (xMeth c.coder ("part" : Str) (sp_Coder_part c n) (tVar 0) (tCons (tOp rXT (tVar 1) (tC (.int 1))) tNil)))
    (tSeq (tDrop (xMeth c.coder ("part" : Str) (sp_Coder_part c n) (tVar 0) (tCons (tOp rXT (tVar 1) (tC (.int 2))) tNil)))
    (tDrop (xMeth c.coder ("put" : Str) (sp_Coder_put c) (tVar 0) (tCons (xTup (tCons (tOp rXT (tVar 1) (tC (.int 0))) tNil)) tNil))))) { nx := fun _ H' => Q .non H', rt := Q } [some (.ref o), some v] H := by
    intro a i y rw_ hi ec ev ha tv
    subst ev
    have hin : inV (.str (wd i)) [V.str (wd 0), V.str (wd 1), V.str (wd 2)] = true := by
      have hi : i = 0 ∨ i = 1 ∨ i = 2 := by omega
      rcases hi with rfl | rfl | rfl <;> simp [inV_cons, eqV_str]
    simp only [tIfS, tTest, tOp, tVar, tC, rXT, xTup, tCons, tNil, rInT]
    refine ⟨_, rfl, a, _, 0, _, rfl, rfl, ha, atI0 _ _, (by simp only [List.length_cons, List.length_nil]; decide), fun p H1 A1 => ⟨p, _, rfl, A1.at_, rfl, rfl, _, rfl, ?_⟩⟩
    simp only [Bool.false_eq_true, if_false]
    rw [hin]
    refine iteT ?_
    simp only [tIfS, tRet, tRetN, tAsg, gName, gSub, gCons, gNil, gTup, tDrop, tNext, tVar, tC, tOp, tUn, tTest, tB, tAnd, tOr, tNot, tAndV, tOrV, tNotV, tIf, tCons, tNil, xLst, xTup, xDic, tCB, tCall, tChain, tSl, tPart, tNoPart, rI, rI0, rU, rEq, rNe, scal, rXL, rXT, rXQ, rLenL, rLenT, rLenS, rLenQ, rInt1, rTupL, rLstL, rIsN, rNotN, rInT, rAddS, rLtS, rInS1, rNinS1, rIxS, rSlS, rStL, rCt, rSL, tApp, tPopAt, tPopL, tJoinL, tIndex, xFld, xSet, xMeth, xMake, rGetS, rGetI, rInDS, rInDI, xPutS, xPutI, xGet2S, xGet2I, xPopI, rDctD, rLstD, rCatT, HO.ins.injEq, ixN0, ixN1, ixN2, ixN3, atI0, atI1, atI2, atI3, eqV_str, eqV_int, eqV_is, eqV_si, inV_nil, inV_cons, flatV, List.all_cons, List.all_nil, wd_eq, wd_ne0, wd_ne0', List.getElem?_cons_zero, List.getElem?_cons_succ, List.set_cons_zero, List.set_cons_succ, List.cons_append, List.nil_append, List.append_nil, Nat.reduceAdd, Nat.reduceLT, Option.some.injEq, V.int.injEq, V.str.injEq, V.bl.injEq, V.ref.injEq, HO.lst.injEq, HO.tup.injEq, HO.dK.injEq, List.cons.injEq, exists_eq_left, exists_eq_left', exists_eq_right, exists_eq_right', exists_and_left, exists_and_right, exists_const, exists_eq, exists_eq', and_assoc, true_and, and_true, false_and, and_false, true_or, or_true, false_or, or_false, reduceCtorEq, not_true_eq_false, not_false_eq_true, decide_true, decide_false, decide_eq_true_eq, decide_not, Bool.not_true, Bool.not_false, Bool.false_eq_true, Bool.true_and, Bool.and_true, Bool.false_and, Bool.and_false, Bool.true_or, Bool.or_true, Bool.false_or, Bool.or_false, if_true, if_false, ite_true, ite_false, Nat.reduceEqDiff, exists_false, eq_self, upd_same, Bool.not_eq_true', decide_eq_false_iff_not, A1.k ho, lk_m_put]
    refine ⟨o, m, _, xs, rfl, ⟨⟨dx, A1.k ho⟩, A1.k hm⟩, by omega, fun H2 C2 f2 => ?_⟩
    refine k _ _ C2 ?_ (A1.fr.trans f2)
    rw [ec, List.map_append]
    exact TpL.append ((hx.tups A1.tu).tups f2.tu) (.cons ((tv.tups A1.tu).tups f2.tu) .nil)
  cases e with
  | num i =>
    have hv0 := hv
    simp only [Ex.d, tp_tup, tpl_cons, tpl_nil, tp_str, tp_int] at hv
    obtain ⟨a, ys, rfl, ha, _, r1, rfl, rfl, _, r2, rfl, rfl, rfl⟩ := hv
    exact leaf a 0 _ (.num i) (by decide) rfl rfl ha hv0
  | text i =>
    have hv0 := hv
    simp only [Ex.d, tp_tup, tpl_cons, tpl_nil, tp_str, tp_int] at hv
    obtain ⟨a, ys, rfl, ha, _, r1, rfl, rfl, _, r2, rfl, rfl, rfl⟩ := hv
    exact leaf a 1 _ (.text i) (by decide) rfl rfl ha hv0
  | name i =>
    have hv0 := hv
    simp only [Ex.d, tp_tup, tpl_cons, tpl_nil, tp_str, tp_int] at hv
    obtain ⟨a, ys, rfl, ha, _, r1, rfl, rfl, _, r2, rfl, rfl, rfl⟩ := hv
    exact leaf a 2 _ (.name i) (by decide) rfl rfl ha hv0
  | op s e1 e2 =>
    simp only [Ex.d, tp_tup, tpl_cons, tpl_nil, tp_str, tp_int] at hv
    obtain ⟨a, ys, rfl, ha, _, r1, rfl, rfl, v1, r2, rfl, t1, v2, r3, rfl, t2, rfl⟩ := hv
    simp only [Ex.dep] at hd
    simp only [Ex.code, List.length_append, List.length_cons, List.length_nil] at hl
    simp only [tIfS, tRet, tRetN, tAsg, gName, gSub, gCons, gNil, gTup, tDrop, tNext, tVar, tC, tOp, tUn, tTest, tB, tAnd, tOr, tNot, tAndV, tOrV, tNotV, tIf, tCons, tNil, xLst, xTup, xDic, tCB, tCall, tChain, tSl, tPart, tNoPart, rI, rI0, rU, rEq, rNe, scal, rXL, rXT, rXQ, rLenL, rLenT, rLenS, rLenQ, rInt1, rTupL, rLstL, rIsN, rNotN, rInT, rAddS, rLtS, rInS1, rNinS1, rIxS, rSlS, rStL, rCt, rSL, tApp, tPopAt, tPopL, tJoinL, tIndex, xFld, xSet, xMeth, xMake, rGetS, rGetI, rInDS, rInDI, xPutS, xPutI, xGet2S, xGet2I, xPopI, rDctD, rLstD, rCatT, HO.ins.injEq, ixN0, ixN1, ixN2, ixN3, atI0, atI1, atI2, atI3, eqV_str, eqV_int, eqV_is, eqV_si, inV_nil, inV_cons, flatV, List.all_cons, List.all_nil, wd_eq, wd_ne0, wd_ne0', List.getElem?_cons_zero, List.getElem?_cons_succ, List.set_cons_zero, List.set_cons_succ, List.cons_append, List.nil_append, List.append_nil, Nat.reduceAdd, Nat.reduceLT, Option.some.injEq, V.int.injEq, V.str.injEq, V.bl.injEq, V.ref.injEq, HO.lst.injEq, HO.tup.injEq, HO.dK.injEq, List.cons.injEq, exists_eq_left, exists_eq_left', exists_eq_right, exists_eq_right', exists_and_left, exists_and_right, exists_const, exists_eq, exists_eq', and_assoc, true_and, and_true, false_and, and_false, true_or, or_true, false_or, or_false, reduceCtorEq, not_true_eq_false, not_false_eq_true, decide_true, decide_false, decide_eq_true_eq, decide_not, Bool.not_true, Bool.not_false, Bool.false_eq_true, Bool.true_and, Bool.and_true, Bool.false_and, Bool.and_false, Bool.true_or, Bool.or_true, Bool.false_or, Bool.or_false, if_true, if_false, ite_true, ite_false, Nat.reduceEqDiff, exists_false, eq_self, upd_same, Bool.not_eq_true', decide_eq_false_iff_not, ha]
    refine ⟨(by simp only [List.length_cons, List.length_nil]; decide), fun p H1 A1 => ?_⟩
    simp only [tIfS, tRet, tRetN, tAsg, gName, gSub, gCons, gNil, gTup, tDrop, tNext, tVar, tC, tOp, tUn, tTest, tB, tAnd, tOr, tNot, tAndV, tOrV, tNotV, tIf, tCons, tNil, xLst, xTup, xDic, tCB, tCall, tChain, tSl, tPart, tNoPart, rI, rI0, rU, rEq, rNe, scal, rXL, rXT, rXQ, rLenL, rLenT, rLenS, rLenQ, rInt1, rTupL, rLstL, rIsN, rNotN, rInT, rAddS, rLtS, rInS1, rNinS1, rIxS, rSlS, rStL, rCt, rSL, tApp, tPopAt, tPopL, tJoinL, tIndex, xFld, xSet, xMeth, xMake, rGetS, rGetI, rInDS, rInDI, xPutS, xPutI, xGet2S, xGet2I, xPopI, rDctD, rLstD, rCatT, HO.ins.injEq, ixN0, ixN1, ixN2, ixN3, atI0, atI1, atI2, atI3, eqV_str, eqV_int, eqV_is, eqV_si, inV_nil, inV_cons, flatV, List.all_cons, List.all_nil, wd_eq, wd_ne0, wd_ne0', List.getElem?_cons_zero, List.getElem?_cons_succ, List.set_cons_zero, List.set_cons_succ, List.cons_append, List.nil_append, List.append_nil, Nat.reduceAdd, Nat.reduceLT, Option.some.injEq, V.int.injEq, V.str.injEq, V.bl.injEq, V.ref.injEq, HO.lst.injEq, HO.tup.injEq, HO.dK.injEq, List.cons.injEq, exists_eq_left, exists_eq_left', exists_eq_right, exists_eq_right', exists_and_left, exists_and_right, exists_const, exists_eq, exists_eq', and_assoc, true_and, and_true, false_and, and_false, true_or, or_true, false_or, or_false, reduceCtorEq, not_true_eq_false, not_false_eq_true, decide_true, decide_false, decide_eq_true_eq, decide_not, Bool.not_true, Bool.not_false, Bool.false_eq_true, Bool.true_and, Bool.and_true, Bool.false_and, Bool.and_false, Bool.true_or, Bool.or_true, Bool.false_or, Bool.or_false, if_true, if_false, ite_true, ite_false, Nat.reduceEqDiff, exists_false, eq_self, upd_same, Bool.not_eq_true', decide_eq_false_iff_not, A1.at_, sg_ne s (i := 0) (by decide), sg_ne s (i := 1) (by decide), sg_ne s (i := 2) (by decide)]
    refine st_seq ?_
    simp only [tIfS, tRet, tRetN, tAsg, gName, gSub, gCons, gNil, gTup, tDrop, tNext, tVar, tC, tOp, tUn, tTest, tB, tAnd, tOr, tNot, tAndV, tOrV, tNotV, tIf, tCons, tNil, xLst, xTup, xDic, tCB, tCall, tChain, tSl, tPart, tNoPart, rI, rI0, rU, rEq, rNe, scal, rXL, rXT, rXQ, rLenL, rLenT, rLenS, rLenQ, rInt1, rTupL, rLstL, rIsN, rNotN, rInT, rAddS, rLtS, rInS1, rNinS1, rIxS, rSlS, rStL, rCt, rSL, tApp, tPopAt, tPopL, tJoinL, tIndex, xFld, xSet, xMeth, xMake, rGetS, rGetI, rInDS, rInDI, xPutS, xPutI, xGet2S, xGet2I, xPopI, rDctD, rLstD, rCatT, HO.ins.injEq, ixN0, ixN1, ixN2, ixN3, atI0, atI1, atI2, atI3, eqV_str, eqV_int, eqV_is, eqV_si, inV_nil, inV_cons, flatV, List.all_cons, List.all_nil, wd_eq, wd_ne0, wd_ne0', List.getElem?_cons_zero, List.getElem?_cons_succ, List.set_cons_zero, List.set_cons_succ, List.cons_append, List.nil_append, List.append_nil, Nat.reduceAdd, Nat.reduceLT, Option.some.injEq, V.int.injEq, V.str.injEq, V.bl.injEq, V.ref.injEq, HO.lst.injEq, HO.tup.injEq, HO.dK.injEq, List.cons.injEq, exists_eq_left, exists_eq_left', exists_eq_right, exists_eq_right', exists_and_left, exists_and_right, exists_const, exists_eq, exists_eq', and_assoc, true_and, and_true, false_and, and_false, true_or, or_true, false_or, or_false, reduceCtorEq, not_true_eq_false, not_false_eq_true, decide_true, decide_false, decide_eq_true_eq, decide_not, Bool.not_true, Bool.not_false, Bool.false_eq_true, Bool.true_and, Bool.and_true, Bool.false_and, Bool.and_false, Bool.true_or, Bool.or_true, Bool.false_or, Bool.or_false, if_true, if_false, ite_true, ite_false, Nat.reduceEqDiff, exists_false, eq_self, upd_same, Bool.not_eq_true', decide_eq_false_iff_not, A1.k ha, A1.k ho, lk_m_part]
    refine ⟨o, m, v1, xs, rs, e1, rfl, ⟨⟨dx, A1.k ho⟩, A1.k hm⟩, hx.tups A1.tu, t1.tups A1.tu, by omega, by omega, fun xs2 H2 C2 X2 f2 => ?_⟩
    have ha2 := f2.tu _ _ (A1.k ha)
    obtain ⟨⟨dx2, ho2⟩, hm2⟩ := C2
    refine st_seq ?_
    simp only [tIfS, tRet, tRetN, tAsg, gName, gSub, gCons, gNil, gTup, tDrop, tNext, tVar, tC, tOp, tUn, tTest, tB, tAnd, tOr, tNot, tAndV, tOrV, tNotV, tIf, tCons, tNil, xLst, xTup, xDic, tCB, tCall, tChain, tSl, tPart, tNoPart, rI, rI0, rU, rEq, rNe, scal, rXL, rXT, rXQ, rLenL, rLenT, rLenS, rLenQ, rInt1, rTupL, rLstL, rIsN, rNotN, rInT, rAddS, rLtS, rInS1, rNinS1, rIxS, rSlS, rStL, rCt, rSL, tApp, tPopAt, tPopL, tJoinL, tIndex, xFld, xSet, xMeth, xMake, rGetS, rGetI, rInDS, rInDI, xPutS, xPutI, xGet2S, xGet2I, xPopI, rDctD, rLstD, rCatT, HO.ins.injEq, ixN0, ixN1, ixN2, ixN3, atI0, atI1, atI2, atI3, eqV_str, eqV_int, eqV_is, eqV_si, inV_nil, inV_cons, flatV, List.all_cons, List.all_nil, wd_eq, wd_ne0, wd_ne0', List.getElem?_cons_zero, List.getElem?_cons_succ, List.set_cons_zero, List.set_cons_succ, List.cons_append, List.nil_append, List.append_nil, Nat.reduceAdd, Nat.reduceLT, Option.some.injEq, V.int.injEq, V.str.injEq, V.bl.injEq, V.ref.injEq, HO.lst.injEq, HO.tup.injEq, HO.dK.injEq, List.cons.injEq, exists_eq_left, exists_eq_left', exists_eq_right, exists_eq_right', exists_and_left, exists_and_right, exists_const, exists_eq, exists_eq', and_assoc, true_and, and_true, false_and, and_false, true_or, or_true, false_or, or_false, reduceCtorEq, not_true_eq_false, not_false_eq_true, decide_true, decide_false, decide_eq_true_eq, decide_not, Bool.not_true, Bool.not_false, Bool.false_eq_true, Bool.true_and, Bool.and_true, Bool.false_and, Bool.and_false, Bool.true_or, Bool.or_true, Bool.false_or, Bool.or_false, if_true, if_false, ite_true, ite_false, Nat.reduceEqDiff, exists_false, eq_self, upd_same, Bool.not_eq_true', decide_eq_false_iff_not, ha2, ho2, lk_m_part]
    refine ⟨o, m, v2, xs2, rs ++ e1.code, e2, rfl, ⟨⟨dx2, ho2⟩, hm2⟩, X2, (t2.tups A1.tu).tups f2.tu, by omega, by simp only [List.length_append]; omega, fun xs3 H3 C3 X3 f3 => ?_⟩
    obtain ⟨⟨dx3, ho3⟩, hm3⟩ := C3
    simp only [tIfS, tRet, tRetN, tAsg, gName, gSub, gCons, gNil, gTup, tDrop, tNext, tVar, tC, tOp, tUn, tTest, tB, tAnd, tOr, tNot, tAndV, tOrV, tNotV, tIf, tCons, tNil, xLst, xTup, xDic, tCB, tCall, tChain, tSl, tPart, tNoPart, rI, rI0, rU, rEq, rNe, scal, rXL, rXT, rXQ, rLenL, rLenT, rLenS, rLenQ, rInt1, rTupL, rLstL, rIsN, rNotN, rInT, rAddS, rLtS, rInS1, rNinS1, rIxS, rSlS, rStL, rCt, rSL, tApp, tPopAt, tPopL, tJoinL, tIndex, xFld, xSet, xMeth, xMake, rGetS, rGetI, rInDS, rInDI, xPutS, xPutI, xGet2S, xGet2I, xPopI, rDctD, rLstD, rCatT, HO.ins.injEq, ixN0, ixN1, ixN2, ixN3, atI0, atI1, atI2, atI3, eqV_str, eqV_int, eqV_is, eqV_si, inV_nil, inV_cons, flatV, List.all_cons, List.all_nil, wd_eq, wd_ne0, wd_ne0', List.getElem?_cons_zero, List.getElem?_cons_succ, List.set_cons_zero, List.set_cons_succ, List.cons_append, List.nil_append, List.append_nil, Nat.reduceAdd, Nat.reduceLT, Option.some.injEq, V.int.injEq, V.str.injEq, V.bl.injEq, V.ref.injEq, HO.lst.injEq, HO.tup.injEq, HO.dK.injEq, List.cons.injEq, exists_eq_left, exists_eq_left', exists_eq_right, exists_eq_right', exists_and_left, exists_and_right, exists_const, exists_eq, exists_eq', and_assoc, true_and, and_true, false_and, and_false, true_or, or_true, false_or, or_false, reduceCtorEq, not_true_eq_false, not_false_eq_true, decide_true, decide_false, decide_eq_true_eq, decide_not, Bool.not_true, Bool.not_false, Bool.false_eq_true, Bool.true_and, Bool.and_true, Bool.false_and, Bool.and_false, Bool.true_or, Bool.or_true, Bool.false_or, Bool.or_false, if_true, if_false, ite_true, ite_false, Nat.reduceEqDiff, exists_false, eq_self, upd_same, Bool.not_eq_true', decide_eq_false_iff_not, f3.tu _ _ ha2, ho3, lk_m_put]
    refine ⟨(by simp only [List.length_cons, List.length_nil]; decide), fun q H4 A4 => ?_⟩
    refine ⟨o, m, _, xs3, rfl, ⟨⟨dx3, A4.k ho3⟩, A4.k hm3⟩, by rw [X3.length, List.length_map]; simp only [List.length_append]; omega, fun H5 C5 f5 => ?_⟩
    refine k _ _ C5 ?_ ((((A1.fr.trans f2).trans f3).al A4).trans f5)
    simp only [Ex.code]
    rw [← List.append_assoc, ← List.append_assoc, List.map_append]
    exact TpL.append ((X3.tups A4.tu).tups f5.tu) (.cons (.tup (f5.tu _ _ A4.at_) (.cons (.str _) .nil)) .nil)
theorem len35 {u : Un} {b : Nat} (h : u.ok 5) : (u.code b).length ≤ 35 * u.cnt := u.len_le b h
theorem len35L {l : List Sm} {b : Nat} (h : okL 5 l) : (codeL l b).length ≤ 35 * cntL l := len_leL l b h
theorem Ex.len32 {e : Ex} (h : e.dep ≤ 5) : e.code.length ≤ 32 := Ex.lenM h
def LayInv (c : CA) (o m : Addr) (l : List Sm) (rs : List Rw) (H : Hp) (v0 w : V) (i : Nat) (σ : L2.St) (H' : Hp) : Prop := ∃ (xs : List V) (σ3 : Option V), σ = [some (.ref o), some v0, some w, σ3] ∧
  CoderAt c H' o m xs ∧ TpL H' ((rs ++ codeL (l.take i) rs.length).map Rw.d) xs ∧ Fr [m] H H'
theorem take_cnt {l : List Sm} {i : Nat} {s : Sm} (h : l[i]? = some s) : cntL (l.take i) + s.cnt ≤ cntL l := by
  have h1 := cntL_take l (i + 1)
  rw [take_snoc h, cntL_snoc] at h1
  exact h1
theorem rd_Coder_lay {K : PySem.W.Frag} {c : CA} {n : Nat} {vs : List V} {H : Hp} {Q : VK} {E : XK} (h : sp_Coder_lay c (n + 1) vs H Q E) : t_Coder_lay K c n { nx := fun _ H' => Q .non H', rt := Q } (start ["_", "_", "_", "_"] vs) H := by
  obtain ⟨o, m, v, xs, rs, u, rfl, C0, hx, hv, _, hd, ok, hl, k⟩ := h
  show t_Coder_lay K c n _ [some (.ref o), some v, none, none] H
  unfold t_Coder_lay; refine st_seq ?_
  obtain ⟨⟨dx, ho⟩, hm⟩ := C0
  have L : xs.length = rs.length := by rw [hx.length, List.length_map]
  cases u with
  | row l =>
    obtain ⟨a, a2, ys, rfl, ha, ha2, hy⟩ := tp_row hv
    simp only [tIfS, tRet, tRetN, tAsg, gName, gSub, gCons, gNil, gTup, tDrop, tNext, tVar, tC, tOp, tUn, tTest, tB, tAnd, tOr, tNot, tAndV, tOrV, tNotV, tIf, tCons, tNil, xLst, xTup, xDic, tCB, tCall, tChain, tSl, tPart, tNoPart, rI, rI0, rU, rEq, rNe, scal, rXL, rXT, rXQ, rLenL, rLenT, rLenS, rLenQ, rInt1, rTupL, rLstL, rIsN, rNotN, rInT, rAddS, rLtS, rInS1, rNinS1, rIxS, rSlS, rStL, rCt, rSL, tApp, tPopAt, tPopL, tJoinL, tIndex, xFld, xSet, xMeth, xMake, rGetS, rGetI, rInDS, rInDI, xPutS, xPutI, xGet2S, xGet2I, xPopI, rDctD, rLstD, rCatT, HO.ins.injEq, ixN0, ixN1, ixN2, ixN3, atI0, atI1, atI2, atI3, eqV_str, eqV_int, eqV_is, eqV_si, inV_nil, inV_cons, flatV, List.all_cons, List.all_nil, wd_eq, wd_ne0, wd_ne0', List.getElem?_cons_zero, List.getElem?_cons_succ, List.set_cons_zero, List.set_cons_succ, List.cons_append, List.nil_append, List.append_nil, Nat.reduceAdd, Nat.reduceLT, Option.some.injEq, V.int.injEq, V.str.injEq, V.bl.injEq, V.ref.injEq, HO.lst.injEq, HO.tup.injEq, HO.dK.injEq, List.cons.injEq, exists_eq_left, exists_eq_left', exists_eq_right, exists_eq_right', exists_and_left, exists_and_right, exists_const, exists_eq, exists_eq', and_assoc, true_and, and_true, false_and, and_false, true_or, or_true, false_or, or_false, reduceCtorEq, not_true_eq_false, not_false_eq_true, decide_true, decide_false, decide_eq_true_eq, decide_not, Bool.not_true, Bool.not_false, Bool.false_eq_true, Bool.true_and, Bool.and_true, Bool.false_and, Bool.and_false, Bool.true_or, Bool.or_true, Bool.false_or, Bool.or_false, if_true, if_false, ite_true, ite_false, Nat.reduceEqDiff, exists_false, eq_self, upd_same, Bool.not_eq_true', decide_eq_false_iff_not, ha]
    refine forT (a := a2) (xs := ys) (fun R h => by simp only [tIfS, tRet, tRetN, tAsg, gName, gSub, gCons, gNil, gTup, tDrop, tNext, tVar, tC, tOp, tUn, tTest, tB, tAnd, tOr, tNot, tAndV, tOrV, tNotV, tIf, tCons, tNil, xLst, xTup, xDic, tCB, tCall, tChain, tSl, tPart, tNoPart, rI, rI0, rU, rEq, rNe, scal, rXL, rXT, rXQ, rLenL, rLenT, rLenS, rLenQ, rInt1, rTupL, rLstL, rIsN, rNotN, rInT, rAddS, rLtS, rInS1, rNinS1, rIxS, rSlS, rStL, rCt, rSL, tApp, tPopAt, tPopL, tJoinL, tIndex, xFld, xSet, xMeth, xMake, rGetS, rGetI, rInDS, rInDI, xPutS, xPutI, xGet2S, xGet2I, xPopI, rDctD, rLstD, rCatT, HO.ins.injEq, ixN0, ixN1, ixN2, ixN3, atI0, atI1, atI2, atI3, eqV_str, eqV_int, eqV_is, eqV_si, inV_nil, inV_cons, flatV, List.all_cons, List.all_nil, wd_eq, wd_ne0, wd_ne0', List.getElem?_cons_zero, List.getElem?_cons_succ, List.set_cons_zero, List.set_cons_succ, List.cons_append, List.nil_append, List.append_nil, Nat.reduceAdd, Nat.reduceLT, Option.some.injEq, V.int.injEq, V.str.injEq, V.bl.injEq, V.ref.injEq, HO.lst.injEq, HO.tup.injEq, HO.dK.injEq, List.cons.injEq, exists_eq_left, exists_eq_left', exists_eq_right, exists_eq_right', exists_and_left, exists_and_right, exists_const, exists_eq, exists_eq', and_assoc, true_and, and_true, false_and, and_false, true_or, or_true, false_or, or_false, reduceCtorEq, not_true_eq_false, not_false_eq_true, decide_true, decide_false, decide_eq_true_eq, decide_not, Bool.not_true, Bool.not_false, Bool.false_eq_true, Bool.true_and, Bool.and_true, Bool.false_and, Bool.and_false, Bool.true_or, Bool.or_true, Bool.false_or, Bool.or_false, if_true, if_false, ite_true, ite_false, Nat.reduceEqDiff, exists_false, eq_self, upd_same, Bool.not_eq_true', decide_eq_false_iff_not, ha]; exact h) ha2 (LayInv c o m l rs H (.ref a) (.str (wd 13))) ⟨xs, none, rfl, ⟨⟨dx, ho⟩, hm⟩, by simp only [List.take_zero, codeL, List.append_nil]; exact hx, .refl _ _⟩ ?_ ?_ ?_
    · rintro i σ' H' ⟨xs', σ3, rfl, C1, X1, f⟩
      exact f.tu _ _ ha2
    · rintro i x σ' H' hx' ⟨xs', σ3, rfl, ⟨⟨dx1, ho1⟩, hm1⟩, X1, f⟩
      obtain ⟨d, hd1, hd2⟩ := hy.get' hx'
      obtain ⟨s, hs, rfl⟩ := map_get hd1
      have ms := mem_of_get hs
      have d1 := dpL_mem ms
      have c1 := take_cnt hs
      simp only [Un.dp] at hd
      simp only [Un.cnt] at hl
      show tDrop _ _ [some (.ref o), some (.ref a), some (.str (wd 13)), some x] H'
      simp only [tIfS, tRet, tRetN, tAsg, gName, gSub, gCons, gNil, gTup, tDrop, tNext, tVar, tC, tOp, tUn, tTest, tB, tAnd, tOr, tNot, tAndV, tOrV, tNotV, tIf, tCons, tNil, xLst, xTup, xDic, tCB, tCall, tChain, tSl, tPart, tNoPart, rI, rI0, rU, rEq, rNe, scal, rXL, rXT, rXQ, rLenL, rLenT, rLenS, rLenQ, rInt1, rTupL, rLstL, rIsN, rNotN, rInT, rAddS, rLtS, rInS1, rNinS1, rIxS, rSlS, rStL, rCt, rSL, tApp, tPopAt, tPopL, tJoinL, tIndex, xFld, xSet, xMeth, xMake, rGetS, rGetI, rInDS, rInDI, xPutS, xPutI, xGet2S, xGet2I, xPopI, rDctD, rLstD, rCatT, HO.ins.injEq, ixN0, ixN1, ixN2, ixN3, atI0, atI1, atI2, atI3, eqV_str, eqV_int, eqV_is, eqV_si, inV_nil, inV_cons, flatV, List.all_cons, List.all_nil, wd_eq, wd_ne0, wd_ne0', List.getElem?_cons_zero, List.getElem?_cons_succ, List.set_cons_zero, List.set_cons_succ, List.cons_append, List.nil_append, List.append_nil, Nat.reduceAdd, Nat.reduceLT, Option.some.injEq, V.int.injEq, V.str.injEq, V.bl.injEq, V.ref.injEq, HO.lst.injEq, HO.tup.injEq, HO.dK.injEq, List.cons.injEq, exists_eq_left, exists_eq_left', exists_eq_right, exists_eq_right', exists_and_left, exists_and_right, exists_const, exists_eq, exists_eq', and_assoc, true_and, and_true, false_and, and_false, true_or, or_true, false_or, or_false, reduceCtorEq, not_true_eq_false, not_false_eq_true, decide_true, decide_false, decide_eq_true_eq, decide_not, Bool.not_true, Bool.not_false, Bool.false_eq_true, Bool.true_and, Bool.and_true, Bool.false_and, Bool.and_false, Bool.true_or, Bool.or_true, Bool.false_or, Bool.or_false, if_true, if_false, ite_true, ite_false, Nat.reduceEqDiff, exists_false, eq_self, upd_same, Bool.not_eq_true', decide_eq_false_iff_not, ho1, lk_m_lay]
      have lb := len35L (b := rs.length) (okL_take l i ok)
      refine ⟨o, m, x, xs', rs ++ codeL (l.take i) rs.length, .st s, rfl, ⟨⟨dx1, ho1⟩, hm1⟩, X1, hd2.tups f.tu, trivial, by simp only [Un.dp]; omega, okL_mem ok ms, by simp only [Un.cnt, List.length_append]; omega, fun xs2 H2 C2 X2 f2 => ?_⟩
      refine ⟨xs2, _, rfl, C2, ?_, f.trans f2⟩
      rw [take_snoc hs, codeL_snoc, ← List.append_assoc]
      simpa only [Un.code, List.length_append] using X2
    · rintro σ' H' ⟨xs', σ3, rfl, C1, X1, f⟩
      rw [hy.length, List.length_map, List.take_length] at X1
      exact k _ _ C1 X1 f
  | st s =>
    simp only [Un.dp] at hd
    cases s with
    | say e =>
      obtain ⟨a, ve, rfl, ha, te⟩ := tp_say hv
      have le := Ex.len32 ok.2
      simp only [Un.cnt, Sm.cnt] at hl
      simp only [tIfS, tRet, tRetN, tAsg, gName, gSub, gCons, gNil, gTup, tDrop, tNext, tVar, tC, tOp, tUn, tTest, tB, tAnd, tOr, tNot, tAndV, tOrV, tNotV, tIf, tCons, tNil, xLst, xTup, xDic, tCB, tCall, tChain, tSl, tPart, tNoPart, rI, rI0, rU, rEq, rNe, scal, rXL, rXT, rXQ, rLenL, rLenT, rLenS, rLenQ, rInt1, rTupL, rLstL, rIsN, rNotN, rInT, rAddS, rLtS, rInS1, rNinS1, rIxS, rSlS, rStL, rCt, rSL, tApp, tPopAt, tPopL, tJoinL, tIndex, xFld, xSet, xMeth, xMake, rGetS, rGetI, rInDS, rInDI, xPutS, xPutI, xGet2S, xGet2I, xPopI, rDctD, rLstD, rCatT, HO.ins.injEq, ixN0, ixN1, ixN2, ixN3, atI0, atI1, atI2, atI3, eqV_str, eqV_int, eqV_is, eqV_si, inV_nil, inV_cons, flatV, List.all_cons, List.all_nil, wd_eq, wd_ne0, wd_ne0', List.getElem?_cons_zero, List.getElem?_cons_succ, List.set_cons_zero, List.set_cons_succ, List.cons_append, List.nil_append, List.append_nil, Nat.reduceAdd, Nat.reduceLT, Option.some.injEq, V.int.injEq, V.str.injEq, V.bl.injEq, V.ref.injEq, HO.lst.injEq, HO.tup.injEq, HO.dK.injEq, List.cons.injEq, exists_eq_left, exists_eq_left', exists_eq_right, exists_eq_right', exists_and_left, exists_and_right, exists_const, exists_eq, exists_eq', and_assoc, true_and, and_true, false_and, and_false, true_or, or_true, false_or, or_false, reduceCtorEq, not_true_eq_false, not_false_eq_true, decide_true, decide_false, decide_eq_true_eq, decide_not, Bool.not_true, Bool.not_false, Bool.false_eq_true, Bool.true_and, Bool.and_true, Bool.false_and, Bool.and_false, Bool.true_or, Bool.or_true, Bool.false_or, Bool.or_false, if_true, if_false, ite_true, ite_false, Nat.reduceEqDiff, exists_false, eq_self, upd_same, Bool.not_eq_true', decide_eq_false_iff_not, ha]
      refine st_seq ?_
      simp only [tIfS, tRet, tRetN, tAsg, gName, gSub, gCons, gNil, gTup, tDrop, tNext, tVar, tC, tOp, tUn, tTest, tB, tAnd, tOr, tNot, tAndV, tOrV, tNotV, tIf, tCons, tNil, xLst, xTup, xDic, tCB, tCall, tChain, tSl, tPart, tNoPart, rI, rI0, rU, rEq, rNe, scal, rXL, rXT, rXQ, rLenL, rLenT, rLenS, rLenQ, rInt1, rTupL, rLstL, rIsN, rNotN, rInT, rAddS, rLtS, rInS1, rNinS1, rIxS, rSlS, rStL, rCt, rSL, tApp, tPopAt, tPopL, tJoinL, tIndex, xFld, xSet, xMeth, xMake, rGetS, rGetI, rInDS, rInDI, xPutS, xPutI, xGet2S, xGet2I, xPopI, rDctD, rLstD, rCatT, HO.ins.injEq, ixN0, ixN1, ixN2, ixN3, atI0, atI1, atI2, atI3, eqV_str, eqV_int, eqV_is, eqV_si, inV_nil, inV_cons, flatV, List.all_cons, List.all_nil, wd_eq, wd_ne0, wd_ne0', List.getElem?_cons_zero, List.getElem?_cons_succ, List.set_cons_zero, List.set_cons_succ, List.cons_append, List.nil_append, List.append_nil, Nat.reduceAdd, Nat.reduceLT, Option.some.injEq, V.int.injEq, V.str.injEq, V.bl.injEq, V.ref.injEq, HO.lst.injEq, HO.tup.injEq, HO.dK.injEq, List.cons.injEq, exists_eq_left, exists_eq_left', exists_eq_right, exists_eq_right', exists_and_left, exists_and_right, exists_const, exists_eq, exists_eq', and_assoc, true_and, and_true, false_and, and_false, true_or, or_true, false_or, or_false, reduceCtorEq, not_true_eq_false, not_false_eq_true, decide_true, decide_false, decide_eq_true_eq, decide_not, Bool.not_true, Bool.not_false, Bool.false_eq_true, Bool.true_and, Bool.and_true, Bool.false_and, Bool.and_false, Bool.true_or, Bool.or_true, Bool.false_or, Bool.or_false, if_true, if_false, ite_true, ite_false, Nat.reduceEqDiff, exists_false, eq_self, upd_same, Bool.not_eq_true', decide_eq_false_iff_not, ha, ho, lk_m_part]
      refine ⟨o, m, ve, xs, rs, e, rfl, ⟨⟨dx, ho⟩, hm⟩, hx, te, Nat.le_trans ok.2 (by decide), by omega, fun xs2 H2 C2 X2 f2 => ?_⟩
      obtain ⟨⟨dx2, ho2⟩, hm2⟩ := C2
      simp only [tIfS, tRet, tRetN, tAsg, gName, gSub, gCons, gNil, gTup, tDrop, tNext, tVar, tC, tOp, tUn, tTest, tB, tAnd, tOr, tNot, tAndV, tOrV, tNotV, tIf, tCons, tNil, xLst, xTup, xDic, tCB, tCall, tChain, tSl, tPart, tNoPart, rI, rI0, rU, rEq, rNe, scal, rXL, rXT, rXQ, rLenL, rLenT, rLenS, rLenQ, rInt1, rTupL, rLstL, rIsN, rNotN, rInT, rAddS, rLtS, rInS1, rNinS1, rIxS, rSlS, rStL, rCt, rSL, tApp, tPopAt, tPopL, tJoinL, tIndex, xFld, xSet, xMeth, xMake, rGetS, rGetI, rInDS, rInDI, xPutS, xPutI, xGet2S, xGet2I, xPopI, rDctD, rLstD, rCatT, HO.ins.injEq, ixN0, ixN1, ixN2, ixN3, atI0, atI1, atI2, atI3, eqV_str, eqV_int, eqV_is, eqV_si, inV_nil, inV_cons, flatV, List.all_cons, List.all_nil, wd_eq, wd_ne0, wd_ne0', List.getElem?_cons_zero, List.getElem?_cons_succ, List.set_cons_zero, List.set_cons_succ, List.cons_append, List.nil_append, List.append_nil, Nat.reduceAdd, Nat.reduceLT, Option.some.injEq, V.int.injEq, V.str.injEq, V.bl.injEq, V.ref.injEq, HO.lst.injEq, HO.tup.injEq, HO.dK.injEq, List.cons.injEq, exists_eq_left, exists_eq_left', exists_eq_right, exists_eq_right', exists_and_left, exists_and_right, exists_const, exists_eq, exists_eq', and_assoc, true_and, and_true, false_and, and_false, true_or, or_true, false_or, or_false, reduceCtorEq, not_true_eq_false, not_false_eq_true, decide_true, decide_false, decide_eq_true_eq, decide_not, Bool.not_true, Bool.not_false, Bool.false_eq_true, Bool.true_and, Bool.and_true, Bool.false_and, Bool.and_false, Bool.true_or, Bool.or_true, Bool.false_or, Bool.or_false, if_true, if_false, ite_true, ite_false, Nat.reduceEqDiff, exists_false, eq_self, upd_same, Bool.not_eq_true', decide_eq_false_iff_not, ho2, lk_m_put]
      refine ⟨(by simp only [List.length_cons, List.length_nil]; decide), fun q H3 A3 => ?_⟩
      refine ⟨o, m, _, xs2, rfl, ⟨⟨dx2, A3.k ho2⟩, A3.k hm2⟩, by rw [X2.length, List.length_map]; simp only [List.length_append]; omega, fun H4 C4 f4 => ?_⟩
      refine k _ _ C4 ?_ ((f2.al A3).trans f4)
      simp only [Un.code, Sm.code]
      rw [← List.append_assoc, List.map_append]
      exact TpL.append ((X2.tups A3.tu).tups f4.tu) (.cons (.tup (f4.tu _ _ A3.at_) (.cons (.str _) .nil)) .nil)
    | set x e =>
      obtain ⟨a, ve, rfl, ha, te⟩ := tp_set hv
      have le := Ex.len32 ok.2.2
      simp only [Un.cnt, Sm.cnt] at hl
      simp only [tIfS, tRet, tRetN, tAsg, gName, gSub, gCons, gNil, gTup, tDrop, tNext, tVar, tC, tOp, tUn, tTest, tB, tAnd, tOr, tNot, tAndV, tOrV, tNotV, tIf, tCons, tNil, xLst, xTup, xDic, tCB, tCall, tChain, tSl, tPart, tNoPart, rI, rI0, rU, rEq, rNe, scal, rXL, rXT, rXQ, rLenL, rLenT, rLenS, rLenQ, rInt1, rTupL, rLstL, rIsN, rNotN, rInT, rAddS, rLtS, rInS1, rNinS1, rIxS, rSlS, rStL, rCt, rSL, tApp, tPopAt, tPopL, tJoinL, tIndex, xFld, xSet, xMeth, xMake, rGetS, rGetI, rInDS, rInDI, xPutS, xPutI, xGet2S, xGet2I, xPopI, rDctD, rLstD, rCatT, HO.ins.injEq, ixN0, ixN1, ixN2, ixN3, atI0, atI1, atI2, atI3, eqV_str, eqV_int, eqV_is, eqV_si, inV_nil, inV_cons, flatV, List.all_cons, List.all_nil, wd_eq, wd_ne0, wd_ne0', List.getElem?_cons_zero, List.getElem?_cons_succ, List.set_cons_zero, List.set_cons_succ, List.cons_append, List.nil_append, List.append_nil, Nat.reduceAdd, Nat.reduceLT, Option.some.injEq, V.int.injEq, V.str.injEq, V.bl.injEq, V.ref.injEq, HO.lst.injEq, HO.tup.injEq, HO.dK.injEq, List.cons.injEq, exists_eq_left, exists_eq_left', exists_eq_right, exists_eq_right', exists_and_left, exists_and_right, exists_const, exists_eq, exists_eq', and_assoc, true_and, and_true, false_and, and_false, true_or, or_true, false_or, or_false, reduceCtorEq, not_true_eq_false, not_false_eq_true, decide_true, decide_false, decide_eq_true_eq, decide_not, Bool.not_true, Bool.not_false, Bool.false_eq_true, Bool.true_and, Bool.and_true, Bool.false_and, Bool.and_false, Bool.true_or, Bool.or_true, Bool.false_or, Bool.or_false, if_true, if_false, ite_true, ite_false, Nat.reduceEqDiff, exists_false, eq_self, upd_same, Bool.not_eq_true', decide_eq_false_iff_not, ha]
      refine st_seq ?_
      simp only [tIfS, tRet, tRetN, tAsg, gName, gSub, gCons, gNil, gTup, tDrop, tNext, tVar, tC, tOp, tUn, tTest, tB, tAnd, tOr, tNot, tAndV, tOrV, tNotV, tIf, tCons, tNil, xLst, xTup, xDic, tCB, tCall, tChain, tSl, tPart, tNoPart, rI, rI0, rU, rEq, rNe, scal, rXL, rXT, rXQ, rLenL, rLenT, rLenS, rLenQ, rInt1, rTupL, rLstL, rIsN, rNotN, rInT, rAddS, rLtS, rInS1, rNinS1, rIxS, rSlS, rStL, rCt, rSL, tApp, tPopAt, tPopL, tJoinL, tIndex, xFld, xSet, xMeth, xMake, rGetS, rGetI, rInDS, rInDI, xPutS, xPutI, xGet2S, xGet2I, xPopI, rDctD, rLstD, rCatT, HO.ins.injEq, ixN0, ixN1, ixN2, ixN3, atI0, atI1, atI2, atI3, eqV_str, eqV_int, eqV_is, eqV_si, inV_nil, inV_cons, flatV, List.all_cons, List.all_nil, wd_eq, wd_ne0, wd_ne0', List.getElem?_cons_zero, List.getElem?_cons_succ, List.set_cons_zero, List.set_cons_succ, List.cons_append, List.nil_append, List.append_nil, Nat.reduceAdd, Nat.reduceLT, Option.some.injEq, V.int.injEq, V.str.injEq, V.bl.injEq, V.ref.injEq, HO.lst.injEq, HO.tup.injEq, HO.dK.injEq, List.cons.injEq, exists_eq_left, exists_eq_left', exists_eq_right, exists_eq_right', exists_and_left, exists_and_right, exists_const, exists_eq, exists_eq', and_assoc, true_and, and_true, false_and, and_false, true_or, or_true, false_or, or_false, reduceCtorEq, not_true_eq_false, not_false_eq_true, decide_true, decide_false, decide_eq_true_eq, decide_not, Bool.not_true, Bool.not_false, Bool.false_eq_true, Bool.true_and, Bool.and_true, Bool.false_and, Bool.and_false, Bool.true_or, Bool.or_true, Bool.false_or, Bool.or_false, if_true, if_false, ite_true, ite_false, Nat.reduceEqDiff, exists_false, eq_self, upd_same, Bool.not_eq_true', decide_eq_false_iff_not, ha, ho, lk_m_part]
      refine ⟨o, m, ve, xs, rs, e, rfl, ⟨⟨dx, ho⟩, hm⟩, hx, te, Nat.le_trans ok.2.2 (by decide), by omega, fun xs2 H2 C2 X2 f2 => ?_⟩
      obtain ⟨⟨dx2, ho2⟩, hm2⟩ := C2
      simp only [tIfS, tRet, tRetN, tAsg, gName, gSub, gCons, gNil, gTup, tDrop, tNext, tVar, tC, tOp, tUn, tTest, tB, tAnd, tOr, tNot, tAndV, tOrV, tNotV, tIf, tCons, tNil, xLst, xTup, xDic, tCB, tCall, tChain, tSl, tPart, tNoPart, rI, rI0, rU, rEq, rNe, scal, rXL, rXT, rXQ, rLenL, rLenT, rLenS, rLenQ, rInt1, rTupL, rLstL, rIsN, rNotN, rInT, rAddS, rLtS, rInS1, rNinS1, rIxS, rSlS, rStL, rCt, rSL, tApp, tPopAt, tPopL, tJoinL, tIndex, xFld, xSet, xMeth, xMake, rGetS, rGetI, rInDS, rInDI, xPutS, xPutI, xGet2S, xGet2I, xPopI, rDctD, rLstD, rCatT, HO.ins.injEq, ixN0, ixN1, ixN2, ixN3, atI0, atI1, atI2, atI3, eqV_str, eqV_int, eqV_is, eqV_si, inV_nil, inV_cons, flatV, List.all_cons, List.all_nil, wd_eq, wd_ne0, wd_ne0', List.getElem?_cons_zero, List.getElem?_cons_succ, List.set_cons_zero, List.set_cons_succ, List.cons_append, List.nil_append, List.append_nil, Nat.reduceAdd, Nat.reduceLT, Option.some.injEq, V.int.injEq, V.str.injEq, V.bl.injEq, V.ref.injEq, HO.lst.injEq, HO.tup.injEq, HO.dK.injEq, List.cons.injEq, exists_eq_left, exists_eq_left', exists_eq_right, exists_eq_right', exists_and_left, exists_and_right, exists_const, exists_eq, exists_eq', and_assoc, true_and, and_true, false_and, and_false, true_or, or_true, false_or, or_false, reduceCtorEq, not_true_eq_false, not_false_eq_true, decide_true, decide_false, decide_eq_true_eq, decide_not, Bool.not_true, Bool.not_false, Bool.false_eq_true, Bool.true_and, Bool.and_true, Bool.false_and, Bool.and_false, Bool.true_or, Bool.or_true, Bool.false_or, Bool.or_false, if_true, if_false, ite_true, ite_false, Nat.reduceEqDiff, exists_false, eq_self, upd_same, Bool.not_eq_true', decide_eq_false_iff_not, ho2, lk_m_put, f2.tu _ _ ha]
      refine ⟨(by simp only [List.length_cons, List.length_nil]; decide), fun q H3 A3 => ?_⟩
      refine ⟨o, m, _, xs2, rfl, ⟨⟨dx2, A3.k ho2⟩, A3.k hm2⟩, by rw [X2.length, List.length_map]; simp only [List.length_append]; omega, fun H4 C4 f4 => ?_⟩
      refine k _ _ C4 ?_ ((f2.al A3).trans f4)
      simp only [Un.code, Sm.code]
      rw [← List.append_assoc, List.map_append]
      exact TpL.append ((X2.tups A3.tu).tups f4.tu) (.cons (.tup (f4.tu _ _ A3.at_) (.cons (.str _) (.cons (.str _) .nil))) .nil)
    | ite e s t =>
      have hv0 := hv
      obtain ⟨a, ve, v1, v2, rfl, ha, te, ts1, ts2⟩ := tp_ite hv
      simp only [tIfS, tRet, tRetN, tAsg, gName, gSub, gCons, gNil, gTup, tDrop, tNext, tVar, tC, tOp, tUn, tTest, tB, tAnd, tOr, tNot, tAndV, tOrV, tNotV, tIf, tCons, tNil, xLst, xTup, xDic, tCB, tCall, tChain, tSl, tPart, tNoPart, rI, rI0, rU, rEq, rNe, scal, rXL, rXT, rXQ, rLenL, rLenT, rLenS, rLenQ, rInt1, rTupL, rLstL, rIsN, rNotN, rInT, rAddS, rLtS, rInS1, rNinS1, rIxS, rSlS, rStL, rCt, rSL, tApp, tPopAt, tPopL, tJoinL, tIndex, xFld, xSet, xMeth, xMake, rGetS, rGetI, rInDS, rInDI, xPutS, xPutI, xGet2S, xGet2I, xPopI, rDctD, rLstD, rCatT, HO.ins.injEq, ixN0, ixN1, ixN2, ixN3, atI0, atI1, atI2, atI3, eqV_str, eqV_int, eqV_is, eqV_si, inV_nil, inV_cons, flatV, List.all_cons, List.all_nil, wd_eq, wd_ne0, wd_ne0', List.getElem?_cons_zero, List.getElem?_cons_succ, List.set_cons_zero, List.set_cons_succ, List.cons_append, List.nil_append, List.append_nil, Nat.reduceAdd, Nat.reduceLT, Option.some.injEq, V.int.injEq, V.str.injEq, V.bl.injEq, V.ref.injEq, HO.lst.injEq, HO.tup.injEq, HO.dK.injEq, List.cons.injEq, exists_eq_left, exists_eq_left', exists_eq_right, exists_eq_right', exists_and_left, exists_and_right, exists_const, exists_eq, exists_eq', and_assoc, true_and, and_true, false_and, and_false, true_or, or_true, false_or, or_false, reduceCtorEq, not_true_eq_false, not_false_eq_true, decide_true, decide_false, decide_eq_true_eq, decide_not, Bool.not_true, Bool.not_false, Bool.false_eq_true, Bool.true_and, Bool.and_true, Bool.false_and, Bool.and_false, Bool.true_or, Bool.or_true, Bool.false_or, Bool.or_false, if_true, if_false, ite_true, ite_false, Nat.reduceEqDiff, exists_false, eq_self, upd_same, Bool.not_eq_true', decide_eq_false_iff_not, ha, ho, lk_m_choice]
      exact ⟨o, m, _, xs, rs, _, rfl, ⟨⟨dx, ho⟩, hm⟩, hx, hv0, trivial, by simp only [Un.dp]; omega, ok, hl, k⟩
    | whl e s =>
      have hv0 := hv
      obtain ⟨a, ve, v1, rfl, ha, te, ts1⟩ := tp_whl hv
      simp only [tIfS, tRet, tRetN, tAsg, gName, gSub, gCons, gNil, gTup, tDrop, tNext, tVar, tC, tOp, tUn, tTest, tB, tAnd, tOr, tNot, tAndV, tOrV, tNotV, tIf, tCons, tNil, xLst, xTup, xDic, tCB, tCall, tChain, tSl, tPart, tNoPart, rI, rI0, rU, rEq, rNe, scal, rXL, rXT, rXQ, rLenL, rLenT, rLenS, rLenQ, rInt1, rTupL, rLstL, rIsN, rNotN, rInT, rAddS, rLtS, rInS1, rNinS1, rIxS, rSlS, rStL, rCt, rSL, tApp, tPopAt, tPopL, tJoinL, tIndex, xFld, xSet, xMeth, xMake, rGetS, rGetI, rInDS, rInDI, xPutS, xPutI, xGet2S, xGet2I, xPopI, rDctD, rLstD, rCatT, HO.ins.injEq, ixN0, ixN1, ixN2, ixN3, atI0, atI1, atI2, atI3, eqV_str, eqV_int, eqV_is, eqV_si, inV_nil, inV_cons, flatV, List.all_cons, List.all_nil, wd_eq, wd_ne0, wd_ne0', List.getElem?_cons_zero, List.getElem?_cons_succ, List.set_cons_zero, List.set_cons_succ, List.cons_append, List.nil_append, List.append_nil, Nat.reduceAdd, Nat.reduceLT, Option.some.injEq, V.int.injEq, V.str.injEq, V.bl.injEq, V.ref.injEq, HO.lst.injEq, HO.tup.injEq, HO.dK.injEq, List.cons.injEq, exists_eq_left, exists_eq_left', exists_eq_right, exists_eq_right', exists_and_left, exists_and_right, exists_const, exists_eq, exists_eq', and_assoc, true_and, and_true, false_and, and_false, true_or, or_true, false_or, or_false, reduceCtorEq, not_true_eq_false, not_false_eq_true, decide_true, decide_false, decide_eq_true_eq, decide_not, Bool.not_true, Bool.not_false, Bool.false_eq_true, Bool.true_and, Bool.and_true, Bool.false_and, Bool.and_false, Bool.true_or, Bool.or_true, Bool.false_or, Bool.or_false, if_true, if_false, ite_true, ite_false, Nat.reduceEqDiff, exists_false, eq_self, upd_same, Bool.not_eq_true', decide_eq_false_iff_not, ha, ho, lk_m_loop]
      exact ⟨o, m, _, xs, rs, _, rfl, ⟨⟨dx, ho⟩, hm⟩, hx, hv0, trivial, by simp only [Un.dp]; omega, ok, hl, k⟩
theorem set_mid {α : Type} (A B : List α) (x y : α) : (A ++ [x] ++ B).set A.length y = A ++ [y] ++ B := by
  rw [List.append_assoc, List.set_append_right _ _ (Nat.le_refl _), Nat.sub_self]
  simp
theorem ixN_len {n j : Nat} (h : j < n) {i : Int} (e : i = j) : ixN n i = some j := by subst e; exact ixN_n h
theorem rd_Coder_loop {K : PySem.W.Frag} {c : CA} {n : Nat} {vs : List V} {H : Hp} {Q : VK} {E : XK} (h : sp_Coder_loop c (n + 1) vs H Q E) : t_Coder_loop K c n { nx := fun _ H' => Q .non H', rt := Q } (start ["_", "_", "_", "_"] vs) H := by
  obtain ⟨o, m, v, xs, rs, u, rfl, C0, hx, hv, gu, hd, ok, hl, k⟩ := h
  show t_Coder_loop K c n _ [some (.ref o), some v, none, none] H
  obtain ⟨⟨dx, ho⟩, hm⟩ := C0
  have L : xs.length = rs.length := by rw [hx.length, List.length_map]
  obtain ⟨e, s, rfl⟩ : ∃ e s, u = .st (.whl e s) := by
    cases u with
    | row l => exact gu.elim
    | st s => cases s <;> first | exact gu.elim | exact ⟨_, _, rfl⟩
  obtain ⟨a, ve, v1, rfl, ha, te, ts⟩ := tp_whl hv
  have le := Ex.len32 ok.1.2
  have ls : ∀ b, (codeL s b).length ≤ 35 * cntL s := fun b => len35L ok.2
  simp only [Un.dp, Sm.dp] at hd
  simp only [Un.cnt, Sm.cnt] at hl
  unfold t_Coder_loop; refine st_seq ?_
  simp only [tIfS, tRet, tRetN, tAsg, gName, gSub, gCons, gNil, gTup, tDrop, tNext, tVar, tC, tOp, tUn, tTest, tB, tAnd, tOr, tNot, tAndV, tOrV, tNotV, tIf, tCons, tNil, xLst, xTup, xDic, tCB, tCall, tChain, tSl, tPart, tNoPart, rI, rI0, rU, rEq, rNe, scal, rXL, rXT, rXQ, rLenL, rLenT, rLenS, rLenQ, rInt1, rTupL, rLstL, rIsN, rNotN, rInT, rAddS, rLtS, rInS1, rNinS1, rIxS, rSlS, rStL, rCt, rSL, tApp, tPopAt, tPopL, tJoinL, tIndex, xFld, xSet, xMeth, xMake, rGetS, rGetI, rInDS, rInDI, xPutS, xPutI, xGet2S, xGet2I, xPopI, rDctD, rLstD, rCatT, HO.ins.injEq, ixN0, ixN1, ixN2, ixN3, atI0, atI1, atI2, atI3, eqV_str, eqV_int, eqV_is, eqV_si, inV_nil, inV_cons, flatV, List.all_cons, List.all_nil, wd_eq, wd_ne0, wd_ne0', List.getElem?_cons_zero, List.getElem?_cons_succ, List.set_cons_zero, List.set_cons_succ, List.cons_append, List.nil_append, List.append_nil, Nat.reduceAdd, Nat.reduceLT, Option.some.injEq, V.int.injEq, V.str.injEq, V.bl.injEq, V.ref.injEq, HO.lst.injEq, HO.tup.injEq, HO.dK.injEq, List.cons.injEq, exists_eq_left, exists_eq_left', exists_eq_right, exists_eq_right', exists_and_left, exists_and_right, exists_const, exists_eq, exists_eq', and_assoc, true_and, and_true, false_and, and_false, true_or, or_true, false_or, or_false, reduceCtorEq, not_true_eq_false, not_false_eq_true, decide_true, decide_false, decide_eq_true_eq, decide_not, Bool.not_true, Bool.not_false, Bool.false_eq_true, Bool.true_and, Bool.and_true, Bool.false_and, Bool.and_false, Bool.true_or, Bool.or_true, Bool.false_or, Bool.or_false, if_true, if_false, ite_true, ite_false, Nat.reduceEqDiff, exists_false, eq_self, upd_same, Bool.not_eq_true', decide_eq_false_iff_not, ho, lk_m_put]
  refine ⟨(by simp only [List.length_cons, List.length_nil]; decide), fun q H1 A1 => ?_⟩
  refine ⟨o, m, _, xs, rfl, ⟨⟨dx, A1.k ho⟩, A1.k hm⟩, by omega, fun H2 C2 f2 => ?_⟩
  have X2 : TpL H2 ((rs ++ [Rw.top]).map Rw.d) (xs ++ [.ref q]) := by
    rw [List.map_append]
    exact TpL.append ((hx.tups A1.tu).tups f2.tu) (.cons (.tup (f2.tu _ _ A1.at_) (.cons (.str _) .nil)) .nil)
  have T2 : Tups H H2 := A1.tu.trans f2.tu
  have F2 : Fr [m] H H2 := A1.fr.trans f2
  obtain ⟨⟨dx2, ho2⟩, hm2⟩ := C2
  unfold t_Coder_loop_1; refine st_seq ?_
  simp only [tIfS, tRet, tRetN, tAsg, gName, gSub, gCons, gNil, gTup, tDrop, tNext, tVar, tC, tOp, tUn, tTest, tB, tAnd, tOr, tNot, tAndV, tOrV, tNotV, tIf, tCons, tNil, xLst, xTup, xDic, tCB, tCall, tChain, tSl, tPart, tNoPart, rI, rI0, rU, rEq, rNe, scal, rXL, rXT, rXQ, rLenL, rLenT, rLenS, rLenQ, rInt1, rTupL, rLstL, rIsN, rNotN, rInT, rAddS, rLtS, rInS1, rNinS1, rIxS, rSlS, rStL, rCt, rSL, tApp, tPopAt, tPopL, tJoinL, tIndex, xFld, xSet, xMeth, xMake, rGetS, rGetI, rInDS, rInDI, xPutS, xPutI, xGet2S, xGet2I, xPopI, rDctD, rLstD, rCatT, HO.ins.injEq, ixN0, ixN1, ixN2, ixN3, atI0, atI1, atI2, atI3, eqV_str, eqV_int, eqV_is, eqV_si, inV_nil, inV_cons, flatV, List.all_cons, List.all_nil, wd_eq, wd_ne0, wd_ne0', List.getElem?_cons_zero, List.getElem?_cons_succ, List.set_cons_zero, List.set_cons_succ, List.cons_append, List.nil_append, List.append_nil, Nat.reduceAdd, Nat.reduceLT, Option.some.injEq, V.int.injEq, V.str.injEq, V.bl.injEq, V.ref.injEq, HO.lst.injEq, HO.tup.injEq, HO.dK.injEq, List.cons.injEq, exists_eq_left, exists_eq_left', exists_eq_right, exists_eq_right', exists_and_left, exists_and_right, exists_const, exists_eq, exists_eq', and_assoc, true_and, and_true, false_and, and_false, true_or, or_true, false_or, or_false, reduceCtorEq, not_true_eq_false, not_false_eq_true, decide_true, decide_false, decide_eq_true_eq, decide_not, Bool.not_true, Bool.not_false, Bool.false_eq_true, Bool.true_and, Bool.and_true, Bool.false_and, Bool.and_false, Bool.true_or, Bool.or_true, Bool.false_or, Bool.or_false, if_true, if_false, ite_true, ite_false, Nat.reduceEqDiff, exists_false, eq_self, upd_same, Bool.not_eq_true', decide_eq_false_iff_not, ho2, lk_m_part, T2 _ _ ha]
  refine ⟨o, m, ve, _, _, e, rfl, ⟨⟨dx2, ho2⟩, hm2⟩, X2, te.tups T2, Nat.le_trans ok.1.2 (by decide), by simp only [List.length_append, List.length_cons, List.length_nil]; omega, fun xs3 H3 C3 X3 f3 => ?_⟩
  have T3 : Tups H H3 := T2.trans f3.tu
  obtain ⟨⟨dx3, ho3⟩, hm3⟩ := C3
  have L3 : xs3.length = rs.length + 1 + e.code.length := by rw [X3.length, List.length_map]; simp only [List.length_append, List.length_cons, List.length_nil]
  unfold t_Coder_loop_2; refine st_seq ?_
  simp only [tIfS, tRet, tRetN, tAsg, gName, gSub, gCons, gNil, gTup, tDrop, tNext, tVar, tC, tOp, tUn, tTest, tB, tAnd, tOr, tNot, tAndV, tOrV, tNotV, tIf, tCons, tNil, xLst, xTup, xDic, tCB, tCall, tChain, tSl, tPart, tNoPart, rI, rI0, rU, rEq, rNe, scal, rXL, rXT, rXQ, rLenL, rLenT, rLenS, rLenQ, rInt1, rTupL, rLstL, rIsN, rNotN, rInT, rAddS, rLtS, rInS1, rNinS1, rIxS, rSlS, rStL, rCt, rSL, tApp, tPopAt, tPopL, tJoinL, tIndex, xFld, xSet, xMeth, xMake, rGetS, rGetI, rInDS, rInDI, xPutS, xPutI, xGet2S, xGet2I, xPopI, rDctD, rLstD, rCatT, HO.ins.injEq, ixN0, ixN1, ixN2, ixN3, atI0, atI1, atI2, atI3, eqV_str, eqV_int, eqV_is, eqV_si, inV_nil, inV_cons, flatV, List.all_cons, List.all_nil, wd_eq, wd_ne0, wd_ne0', List.getElem?_cons_zero, List.getElem?_cons_succ, List.set_cons_zero, List.set_cons_succ, List.cons_append, List.nil_append, List.append_nil, Nat.reduceAdd, Nat.reduceLT, Option.some.injEq, V.int.injEq, V.str.injEq, V.bl.injEq, V.ref.injEq, HO.lst.injEq, HO.tup.injEq, HO.dK.injEq, List.cons.injEq, exists_eq_left, exists_eq_left', exists_eq_right, exists_eq_right', exists_and_left, exists_and_right, exists_const, exists_eq, exists_eq', and_assoc, true_and, and_true, false_and, and_false, true_or, or_true, false_or, or_false, reduceCtorEq, not_true_eq_false, not_false_eq_true, decide_true, decide_false, decide_eq_true_eq, decide_not, Bool.not_true, Bool.not_false, Bool.false_eq_true, Bool.true_and, Bool.and_true, Bool.false_and, Bool.and_false, Bool.true_or, Bool.or_true, Bool.false_or, Bool.or_false, if_true, if_false, ite_true, ite_false, Nat.reduceEqDiff, exists_false, eq_self, upd_same, Bool.not_eq_true', decide_eq_false_iff_not, ho3, lk_m_put]
  refine ⟨(by simp only [List.length_cons, List.length_nil]; decide), fun q4 H4 A4 => ?_⟩
  refine ⟨o, m, _, xs3, rfl, ⟨⟨dx3, A4.k ho3⟩, A4.k hm3⟩, by omega, fun H5 C5 f5 => ?_⟩
  have X5 : TpL H5 ((rs ++ [Rw.top] ++ e.code ++ [Rw.unless 0]).map Rw.d) (xs3 ++ [.ref q4]) := by
    rw [List.map_append]
    exact TpL.append ((X3.tups A4.tu).tups f5.tu) (.cons (.tup (f5.tu _ _ A4.at_) (.cons (.str _) (.cons (.int _) .nil))) .nil)
  have T5 : Tups H H5 := (T3.trans A4.tu).trans f5.tu
  have F5 : Fr [m] H H5 := ((F2.trans f3).al A4).trans f5
  obtain ⟨⟨dx5, ho5⟩, hm5⟩ := C5
  unfold t_Coder_loop_3; refine st_seq ?_
  simp only [tIfS, tRet, tRetN, tAsg, gName, gSub, gCons, gNil, gTup, tDrop, tNext, tVar, tC, tOp, tUn, tTest, tB, tAnd, tOr, tNot, tAndV, tOrV, tNotV, tIf, tCons, tNil, xLst, xTup, xDic, tCB, tCall, tChain, tSl, tPart, tNoPart, rI, rI0, rU, rEq, rNe, scal, rXL, rXT, rXQ, rLenL, rLenT, rLenS, rLenQ, rInt1, rTupL, rLstL, rIsN, rNotN, rInT, rAddS, rLtS, rInS1, rNinS1, rIxS, rSlS, rStL, rCt, rSL, tApp, tPopAt, tPopL, tJoinL, tIndex, xFld, xSet, xMeth, xMake, rGetS, rGetI, rInDS, rInDI, xPutS, xPutI, xGet2S, xGet2I, xPopI, rDctD, rLstD, rCatT, HO.ins.injEq, ixN0, ixN1, ixN2, ixN3, atI0, atI1, atI2, atI3, eqV_str, eqV_int, eqV_is, eqV_si, inV_nil, inV_cons, flatV, List.all_cons, List.all_nil, wd_eq, wd_ne0, wd_ne0', List.getElem?_cons_zero, List.getElem?_cons_succ, List.set_cons_zero, List.set_cons_succ, List.cons_append, List.nil_append, List.append_nil, Nat.reduceAdd, Nat.reduceLT, Option.some.injEq, V.int.injEq, V.str.injEq, V.bl.injEq, V.ref.injEq, HO.lst.injEq, HO.tup.injEq, HO.dK.injEq, List.cons.injEq, exists_eq_left, exists_eq_left', exists_eq_right, exists_eq_right', exists_and_left, exists_and_right, exists_const, exists_eq, exists_eq', and_assoc, true_and, and_true, false_and, and_false, true_or, or_true, false_or, or_false, reduceCtorEq, not_true_eq_false, not_false_eq_true, decide_true, decide_false, decide_eq_true_eq, decide_not, Bool.not_true, Bool.not_false, Bool.false_eq_true, Bool.true_and, Bool.and_true, Bool.false_and, Bool.and_false, Bool.true_or, Bool.or_true, Bool.false_or, Bool.or_false, if_true, if_false, ite_true, ite_false, Nat.reduceEqDiff, exists_false, eq_self, upd_same, Bool.not_eq_true', decide_eq_false_iff_not, ho5, lk_m_lay, T5 _ _ ha]
  have LR : (rs ++ [Rw.top] ++ e.code ++ [Rw.unless 0]).length = rs.length + e.code.length + 2 := by simp only [List.length_append, List.length_cons, List.length_nil]; omega
  refine ⟨o, m, v1, _, _, .row s, rfl, ⟨⟨dx5, ho5⟩, hm5⟩, X5, ts.tups T5, trivial, by simp only [Un.dp]; omega, ok.2, by rw [LR]; simp only [Un.cnt]; omega, fun xs6 H6 C6 X6 f6 => ?_⟩
  have lse := ls (rs.length + e.code.length + 2)
  rw [LR] at X6
  simp only [Un.code] at X6
  have F6 : Fr [m] H H6 := F5.trans f6
  obtain ⟨⟨dx6, ho6⟩, hm6⟩ := C6
  have L6 : xs6.length = rs.length + e.code.length + 2 + (codeL s (rs.length + e.code.length + 2)).length := by rw [X6.length, List.length_map]; simp only [List.length_append, List.length_cons, List.length_nil]; omega
  unfold t_Coder_loop_4; refine st_seq ?_
  simp only [tIfS, tRet, tRetN, tAsg, gName, gSub, gCons, gNil, gTup, tDrop, tNext, tVar, tC, tOp, tUn, tTest, tB, tAnd, tOr, tNot, tAndV, tOrV, tNotV, tIf, tCons, tNil, xLst, xTup, xDic, tCB, tCall, tChain, tSl, tPart, tNoPart, rI, rI0, rU, rEq, rNe, scal, rXL, rXT, rXQ, rLenL, rLenT, rLenS, rLenQ, rInt1, rTupL, rLstL, rIsN, rNotN, rInT, rAddS, rLtS, rInS1, rNinS1, rIxS, rSlS, rStL, rCt, rSL, tApp, tPopAt, tPopL, tJoinL, tIndex, xFld, xSet, xMeth, xMake, rGetS, rGetI, rInDS, rInDI, xPutS, xPutI, xGet2S, xGet2I, xPopI, rDctD, rLstD, rCatT, HO.ins.injEq, ixN0, ixN1, ixN2, ixN3, atI0, atI1, atI2, atI3, eqV_str, eqV_int, eqV_is, eqV_si, inV_nil, inV_cons, flatV, List.all_cons, List.all_nil, wd_eq, wd_ne0, wd_ne0', List.getElem?_cons_zero, List.getElem?_cons_succ, List.set_cons_zero, List.set_cons_succ, List.cons_append, List.nil_append, List.append_nil, Nat.reduceAdd, Nat.reduceLT, Option.some.injEq, V.int.injEq, V.str.injEq, V.bl.injEq, V.ref.injEq, HO.lst.injEq, HO.tup.injEq, HO.dK.injEq, List.cons.injEq, exists_eq_left, exists_eq_left', exists_eq_right, exists_eq_right', exists_and_left, exists_and_right, exists_const, exists_eq, exists_eq', and_assoc, true_and, and_true, false_and, and_false, true_or, or_true, false_or, or_false, reduceCtorEq, not_true_eq_false, not_false_eq_true, decide_true, decide_false, decide_eq_true_eq, decide_not, Bool.not_true, Bool.not_false, Bool.false_eq_true, Bool.true_and, Bool.and_true, Bool.false_and, Bool.and_false, Bool.true_or, Bool.or_true, Bool.false_or, Bool.or_false, if_true, if_false, ite_true, ite_false, Nat.reduceEqDiff, exists_false, eq_self, upd_same, Bool.not_eq_true', decide_eq_false_iff_not, ho6, lk_m_put]
  refine ⟨(by simp only [List.length_cons, List.length_nil]; decide), fun q7 H7 A7 => ?_⟩
  refine ⟨o, m, _, xs6, rfl, ⟨⟨dx6, A7.k ho6⟩, A7.k hm6⟩, by omega, fun H8 C8 f8 => ?_⟩
  have F8 : Fr [m] H H8 := (F6.al A7).trans f8
  obtain ⟨⟨dx8, ho8⟩, hm8⟩ := C8
  simp only [tIfS, tRet, tRetN, tAsg, gName, gSub, gCons, gNil, gTup, tDrop, tNext, tVar, tC, tOp, tUn, tTest, tB, tAnd, tOr, tNot, tAndV, tOrV, tNotV, tIf, tCons, tNil, xLst, xTup, xDic, tCB, tCall, tChain, tSl, tPart, tNoPart, rI, rI0, rU, rEq, rNe, scal, rXL, rXT, rXQ, rLenL, rLenT, rLenS, rLenQ, rInt1, rTupL, rLstL, rIsN, rNotN, rInT, rAddS, rLtS, rInS1, rNinS1, rIxS, rSlS, rStL, rCt, rSL, tApp, tPopAt, tPopL, tJoinL, tIndex, xFld, xSet, xMeth, xMake, rGetS, rGetI, rInDS, rInDI, xPutS, xPutI, xGet2S, xGet2I, xPopI, rDctD, rLstD, rCatT, HO.ins.injEq, ixN0, ixN1, ixN2, ixN3, atI0, atI1, atI2, atI3, eqV_str, eqV_int, eqV_is, eqV_si, inV_nil, inV_cons, flatV, List.all_cons, List.all_nil, wd_eq, wd_ne0, wd_ne0', List.getElem?_cons_zero, List.getElem?_cons_succ, List.set_cons_zero, List.set_cons_succ, List.cons_append, List.nil_append, List.append_nil, Nat.reduceAdd, Nat.reduceLT, Option.some.injEq, V.int.injEq, V.str.injEq, V.bl.injEq, V.ref.injEq, HO.lst.injEq, HO.tup.injEq, HO.dK.injEq, List.cons.injEq, exists_eq_left, exists_eq_left', exists_eq_right, exists_eq_right', exists_and_left, exists_and_right, exists_const, exists_eq, exists_eq', and_assoc, true_and, and_true, false_and, and_false, true_or, or_true, false_or, or_false, reduceCtorEq, not_true_eq_false, not_false_eq_true, decide_true, decide_false, decide_eq_true_eq, decide_not, Bool.not_true, Bool.not_false, Bool.false_eq_true, Bool.true_and, Bool.and_true, Bool.false_and, Bool.and_false, Bool.true_or, Bool.or_true, Bool.false_or, Bool.or_false, if_true, if_false, ite_true, ite_false, Nat.reduceEqDiff, exists_false, eq_self, upd_same, Bool.not_eq_true', decide_eq_false_iff_not, ho8, lk_made, hm8]
  refine ⟨(by simp only [List.length_cons, List.length_nil]; decide), fun q9 H9 A9 => ?_⟩
  simp only [tIfS, tRet, tRetN, tAsg, gName, gSub, gCons, gNil, gTup, tDrop, tNext, tVar, tC, tOp, tUn, tTest, tB, tAnd, tOr, tNot, tAndV, tOrV, tNotV, tIf, tCons, tNil, xLst, xTup, xDic, tCB, tCall, tChain, tSl, tPart, tNoPart, rI, rI0, rU, rEq, rNe, scal, rXL, rXT, rXQ, rLenL, rLenT, rLenS, rLenQ, rInt1, rTupL, rLstL, rIsN, rNotN, rInT, rAddS, rLtS, rInS1, rNinS1, rIxS, rSlS, rStL, rCt, rSL, tApp, tPopAt, tPopL, tJoinL, tIndex, xFld, xSet, xMeth, xMake, rGetS, rGetI, rInDS, rInDI, xPutS, xPutI, xGet2S, xGet2I, xPopI, rDctD, rLstD, rCatT, HO.ins.injEq, ixN0, ixN1, ixN2, ixN3, atI0, atI1, atI2, atI3, eqV_str, eqV_int, eqV_is, eqV_si, inV_nil, inV_cons, flatV, List.all_cons, List.all_nil, wd_eq, wd_ne0, wd_ne0', List.getElem?_cons_zero, List.getElem?_cons_succ, List.set_cons_zero, List.set_cons_succ, List.cons_append, List.nil_append, List.append_nil, Nat.reduceAdd, Nat.reduceLT, Option.some.injEq, V.int.injEq, V.str.injEq, V.bl.injEq, V.ref.injEq, HO.lst.injEq, HO.tup.injEq, HO.dK.injEq, List.cons.injEq, exists_eq_left, exists_eq_left', exists_eq_right, exists_eq_right', exists_and_left, exists_and_right, exists_const, exists_eq, exists_eq', and_assoc, true_and, and_true, false_and, and_false, true_or, or_true, false_or, or_false, reduceCtorEq, not_true_eq_false, not_false_eq_true, decide_true, decide_false, decide_eq_true_eq, decide_not, Bool.not_true, Bool.not_false, Bool.false_eq_true, Bool.true_and, Bool.and_true, Bool.false_and, Bool.and_false, Bool.true_or, Bool.or_true, Bool.false_or, Bool.or_false, if_true, if_false, ite_true, ite_false, Nat.reduceEqDiff, exists_false, eq_self, upd_same, Bool.not_eq_true', decide_eq_false_iff_not, A9.k ho8, lk_made, A9.k hm8]
  have ne : o ≠ m := ne_of ho hm (by simp)
  have L8 : (xs6 ++ [V.ref q7]).length = rs.length + e.code.length + (codeL s (rs.length + e.code.length + 2)).length + 3 := by simp only [List.length_append, List.length_cons, List.length_nil]; omega
  refine ⟨rs.length + 1 + e.code.length, ixN_len (by omega) (by rw [L3]), fun H10 M10 => ?_⟩
  refine k _ _ ⟨⟨dx8, M10.k (A9.k ho8) ne⟩, M10.at_⟩ ?_ ((F8.al A9).mu M10 (by simp))
  have U : Tups H8 H10 := A9.tu.trans M10.tu
  have e1 : rs ++ Un.code (.st (.whl e s)) rs.length = ((rs ++ [Rw.top] ++ e.code) ++ [Rw.unless (rs.length + e.code.length + (codeL s (rs.length + e.code.length + 2)).length + 3)] ++ (codeL s (rs.length + e.code.length + 2) ++ [Rw.go rs.length])) := by
    simp only [Un.code, Sm.code, List.append_assoc]
  have e2 : (rs ++ [Rw.top] ++ e.code).length = rs.length + 1 + e.code.length := by simp only [List.length_append, List.length_cons, List.length_nil]
  rw [e1, ← set_mid _ _ (Rw.unless 0), e2, List.map_set]
  refine TpL.set _ ?_ (.tup (M10.tu _ _ A9.at_) (.cons (.str _) (.cons ?_ .nil)))
  · rw [← List.append_assoc, List.map_append]
    refine TpL.append (((X6.tups A7.tu).tups f8.tu).tups U) (.cons (.tup (U _ _ (f8.tu _ _ A7.at_)) (.cons (.str _) (.cons ?_ .nil))) .nil)
    rw [tp_int, L]
  · rw [tp_int, L8]
theorem rd_Coder_choice {K : PySem.W.Frag} {c : CA} {n : Nat} {vs : List V} {H : Hp} {Q : VK} {E : XK} (h : sp_Coder_choice c (n + 1) vs H Q E) : t_Coder_choice K c n { nx := fun _ H' => Q .non H', rt := Q } (start ["_", "_", "_", "_"] vs) H := by
  obtain ⟨o, m, v, xs, rs, u, rfl, C0, hx, hv, gu, hd, ok, hl, k⟩ := h
  show t_Coder_choice K c n _ [some (.ref o), some v, none, none] H
  obtain ⟨⟨dx, ho⟩, hm⟩ := C0
  have L : xs.length = rs.length := by rw [hx.length, List.length_map]
  obtain ⟨e, s, t, rfl⟩ : ∃ e s t, u = .st (.ite e s t) := by
    cases u with
    | row l => exact gu.elim
    | st s => cases s <;> first | exact gu.elim | exact ⟨_, _, _, rfl⟩
  obtain ⟨a, ve, v1, v2, rfl, ha, te, ts, tt⟩ := tp_ite hv
  have le := Ex.len32 ok.1.2
  have ls : ∀ b, (codeL s b).length ≤ 35 * cntL s := fun b => len35L ok.2.1
  have lt : ∀ b, (codeL t b).length ≤ 35 * cntL t := fun b => len35L ok.2.2
  simp only [Un.dp, Sm.dp] at hd
  simp only [Un.cnt, Sm.cnt] at hl
  unfold t_Coder_choice; refine st_seq ?_
  simp only [tIfS, tRet, tRetN, tAsg, gName, gSub, gCons, gNil, gTup, tDrop, tNext, tVar, tC, tOp, tUn, tTest, tB, tAnd, tOr, tNot, tAndV, tOrV, tNotV, tIf, tCons, tNil, xLst, xTup, xDic, tCB, tCall, tChain, tSl, tPart, tNoPart, rI, rI0, rU, rEq, rNe, scal, rXL, rXT, rXQ, rLenL, rLenT, rLenS, rLenQ, rInt1, rTupL, rLstL, rIsN, rNotN, rInT, rAddS, rLtS, rInS1, rNinS1, rIxS, rSlS, rStL, rCt, rSL, tApp, tPopAt, tPopL, tJoinL, tIndex, xFld, xSet, xMeth, xMake, rGetS, rGetI, rInDS, rInDI, xPutS, xPutI, xGet2S, xGet2I, xPopI, rDctD, rLstD, rCatT, HO.ins.injEq, ixN0, ixN1, ixN2, ixN3, atI0, atI1, atI2, atI3, eqV_str, eqV_int, eqV_is, eqV_si, inV_nil, inV_cons, flatV, List.all_cons, List.all_nil, wd_eq, wd_ne0, wd_ne0', List.getElem?_cons_zero, List.getElem?_cons_succ, List.set_cons_zero, List.set_cons_succ, List.cons_append, List.nil_append, List.append_nil, Nat.reduceAdd, Nat.reduceLT, Option.some.injEq, V.int.injEq, V.str.injEq, V.bl.injEq, V.ref.injEq, HO.lst.injEq, HO.tup.injEq, HO.dK.injEq, List.cons.injEq, exists_eq_left, exists_eq_left', exists_eq_right, exists_eq_right', exists_and_left, exists_and_right, exists_const, exists_eq, exists_eq', and_assoc, true_and, and_true, false_and, and_false, true_or, or_true, false_or, or_false, reduceCtorEq, not_true_eq_false, not_false_eq_true, decide_true, decide_false, decide_eq_true_eq, decide_not, Bool.not_true, Bool.not_false, Bool.false_eq_true, Bool.true_and, Bool.and_true, Bool.false_and, Bool.and_false, Bool.true_or, Bool.or_true, Bool.false_or, Bool.or_false, if_true, if_false, ite_true, ite_false, Nat.reduceEqDiff, exists_false, eq_self, upd_same, Bool.not_eq_true', decide_eq_false_iff_not, ho, lk_m_part, ha]
  refine ⟨o, m, ve, _, _, e, rfl, ⟨⟨dx, ho⟩, hm⟩, hx, te, Nat.le_trans ok.1.2 (by decide), by omega, fun xs3 H3 C3 X3 f3 => ?_⟩
  have T3 : Tups H H3 := f3.tu
  obtain ⟨⟨dx3, ho3⟩, hm3⟩ := C3
  have L3 : xs3.length = rs.length + e.code.length := by rw [X3.length, List.length_map]; simp only [List.length_append, List.length_cons, List.length_nil]
  unfold t_Coder_choice_1; refine st_seq ?_
  simp only [tIfS, tRet, tRetN, tAsg, gName, gSub, gCons, gNil, gTup, tDrop, tNext, tVar, tC, tOp, tUn, tTest, tB, tAnd, tOr, tNot, tAndV, tOrV, tNotV, tIf, tCons, tNil, xLst, xTup, xDic, tCB, tCall, tChain, tSl, tPart, tNoPart, rI, rI0, rU, rEq, rNe, scal, rXL, rXT, rXQ, rLenL, rLenT, rLenS, rLenQ, rInt1, rTupL, rLstL, rIsN, rNotN, rInT, rAddS, rLtS, rInS1, rNinS1, rIxS, rSlS, rStL, rCt, rSL, tApp, tPopAt, tPopL, tJoinL, tIndex, xFld, xSet, xMeth, xMake, rGetS, rGetI, rInDS, rInDI, xPutS, xPutI, xGet2S, xGet2I, xPopI, rDctD, rLstD, rCatT, HO.ins.injEq, ixN0, ixN1, ixN2, ixN3, atI0, atI1, atI2, atI3, eqV_str, eqV_int, eqV_is, eqV_si, inV_nil, inV_cons, flatV, List.all_cons, List.all_nil, wd_eq, wd_ne0, wd_ne0', List.getElem?_cons_zero, List.getElem?_cons_succ, List.set_cons_zero, List.set_cons_succ, List.cons_append, List.nil_append, List.append_nil, Nat.reduceAdd, Nat.reduceLT, Option.some.injEq, V.int.injEq, V.str.injEq, V.bl.injEq, V.ref.injEq, HO.lst.injEq, HO.tup.injEq, HO.dK.injEq, List.cons.injEq, exists_eq_left, exists_eq_left', exists_eq_right, exists_eq_right', exists_and_left, exists_and_right, exists_const, exists_eq, exists_eq', and_assoc, true_and, and_true, false_and, and_false, true_or, or_true, false_or, or_false, reduceCtorEq, not_true_eq_false, not_false_eq_true, decide_true, decide_false, decide_eq_true_eq, decide_not, Bool.not_true, Bool.not_false, Bool.false_eq_true, Bool.true_and, Bool.and_true, Bool.false_and, Bool.and_false, Bool.true_or, Bool.or_true, Bool.false_or, Bool.or_false, if_true, if_false, ite_true, ite_false, Nat.reduceEqDiff, exists_false, eq_self, upd_same, Bool.not_eq_true', decide_eq_false_iff_not, ho3, lk_m_put]
  refine ⟨(by simp only [List.length_cons, List.length_nil]; decide), fun q4 H4 A4 => ?_⟩
  refine ⟨o, m, _, xs3, rfl, ⟨⟨dx3, A4.k ho3⟩, A4.k hm3⟩, by omega, fun H5 C5 f5 => ?_⟩
  have X5 : TpL H5 ((rs ++ e.code ++ [Rw.unless 0]).map Rw.d) (xs3 ++ [.ref q4]) := by
    rw [List.map_append]
    exact TpL.append ((X3.tups A4.tu).tups f5.tu) (.cons (.tup (f5.tu _ _ A4.at_) (.cons (.str _) (.cons (.int _) .nil))) .nil)
  have T5 : Tups H H5 := (T3.trans A4.tu).trans f5.tu
  have F5 : Fr [m] H H5 := (f3.al A4).trans f5
  obtain ⟨⟨dx5, ho5⟩, hm5⟩ := C5
  unfold t_Coder_choice_2; refine st_seq ?_
  simp only [tIfS, tRet, tRetN, tAsg, gName, gSub, gCons, gNil, gTup, tDrop, tNext, tVar, tC, tOp, tUn, tTest, tB, tAnd, tOr, tNot, tAndV, tOrV, tNotV, tIf, tCons, tNil, xLst, xTup, xDic, tCB, tCall, tChain, tSl, tPart, tNoPart, rI, rI0, rU, rEq, rNe, scal, rXL, rXT, rXQ, rLenL, rLenT, rLenS, rLenQ, rInt1, rTupL, rLstL, rIsN, rNotN, rInT, rAddS, rLtS, rInS1, rNinS1, rIxS, rSlS, rStL, rCt, rSL, tApp, tPopAt, tPopL, tJoinL, tIndex, xFld, xSet, xMeth, xMake, rGetS, rGetI, rInDS, rInDI, xPutS, xPutI, xGet2S, xGet2I, xPopI, rDctD, rLstD, rCatT, HO.ins.injEq, ixN0, ixN1, ixN2, ixN3, atI0, atI1, atI2, atI3, eqV_str, eqV_int, eqV_is, eqV_si, inV_nil, inV_cons, flatV, List.all_cons, List.all_nil, wd_eq, wd_ne0, wd_ne0', List.getElem?_cons_zero, List.getElem?_cons_succ, List.set_cons_zero, List.set_cons_succ, List.cons_append, List.nil_append, List.append_nil, Nat.reduceAdd, Nat.reduceLT, Option.some.injEq, V.int.injEq, V.str.injEq, V.bl.injEq, V.ref.injEq, HO.lst.injEq, HO.tup.injEq, HO.dK.injEq, List.cons.injEq, exists_eq_left, exists_eq_left', exists_eq_right, exists_eq_right', exists_and_left, exists_and_right, exists_const, exists_eq, exists_eq', and_assoc, true_and, and_true, false_and, and_false, true_or, or_true, false_or, or_false, reduceCtorEq, not_true_eq_false, not_false_eq_true, decide_true, decide_false, decide_eq_true_eq, decide_not, Bool.not_true, Bool.not_false, Bool.false_eq_true, Bool.true_and, Bool.and_true, Bool.false_and, Bool.and_false, Bool.true_or, Bool.or_true, Bool.false_or, Bool.or_false, if_true, if_false, ite_true, ite_false, Nat.reduceEqDiff, exists_false, eq_self, upd_same, Bool.not_eq_true', decide_eq_false_iff_not, ho5, lk_m_lay, T5 _ _ ha]
  have LR : (rs ++ e.code ++ [Rw.unless 0]).length = rs.length + e.code.length + 1 := by simp only [List.length_append, List.length_cons, List.length_nil]
  refine ⟨o, m, v1, _, _, .row s, rfl, ⟨⟨dx5, ho5⟩, hm5⟩, X5, ts.tups T5, trivial, by simp only [Un.dp]; omega, ok.2.1, by rw [LR]; simp only [Un.cnt]; omega, fun xs6 H6 C6 X6 f6 => ?_⟩
  have lse := ls (rs.length + e.code.length + 1)
  rw [LR] at X6
  simp only [Un.code] at X6
  have F6 : Fr [m] H H6 := F5.trans f6
  obtain ⟨⟨dx6, ho6⟩, hm6⟩ := C6
  have L6 : xs6.length = rs.length + e.code.length + 1 + (codeL s (rs.length + e.code.length + 1)).length := by rw [X6.length, List.length_map]; simp only [List.length_append, List.length_cons, List.length_nil]
  unfold t_Coder_choice_3; refine st_seq ?_
  simp only [tIfS, tRet, tRetN, tAsg, gName, gSub, gCons, gNil, gTup, tDrop, tNext, tVar, tC, tOp, tUn, tTest, tB, tAnd, tOr, tNot, tAndV, tOrV, tNotV, tIf, tCons, tNil, xLst, xTup, xDic, tCB, tCall, tChain, tSl, tPart, tNoPart, rI, rI0, rU, rEq, rNe, scal, rXL, rXT, rXQ, rLenL, rLenT, rLenS, rLenQ, rInt1, rTupL, rLstL, rIsN, rNotN, rInT, rAddS, rLtS, rInS1, rNinS1, rIxS, rSlS, rStL, rCt, rSL, tApp, tPopAt, tPopL, tJoinL, tIndex, xFld, xSet, xMeth, xMake, rGetS, rGetI, rInDS, rInDI, xPutS, xPutI, xGet2S, xGet2I, xPopI, rDctD, rLstD, rCatT, HO.ins.injEq, ixN0, ixN1, ixN2, ixN3, atI0, atI1, atI2, atI3, eqV_str, eqV_int, eqV_is, eqV_si, inV_nil, inV_cons, flatV, List.all_cons, List.all_nil, wd_eq, wd_ne0, wd_ne0', List.getElem?_cons_zero, List.getElem?_cons_succ, List.set_cons_zero, List.set_cons_succ, List.cons_append, List.nil_append, List.append_nil, Nat.reduceAdd, Nat.reduceLT, Option.some.injEq, V.int.injEq, V.str.injEq, V.bl.injEq, V.ref.injEq, HO.lst.injEq, HO.tup.injEq, HO.dK.injEq, List.cons.injEq, exists_eq_left, exists_eq_left', exists_eq_right, exists_eq_right', exists_and_left, exists_and_right, exists_const, exists_eq, exists_eq', and_assoc, true_and, and_true, false_and, and_false, true_or, or_true, false_or, or_false, reduceCtorEq, not_true_eq_false, not_false_eq_true, decide_true, decide_false, decide_eq_true_eq, decide_not, Bool.not_true, Bool.not_false, Bool.false_eq_true, Bool.true_and, Bool.and_true, Bool.false_and, Bool.and_false, Bool.true_or, Bool.or_true, Bool.false_or, Bool.or_false, if_true, if_false, ite_true, ite_false, Nat.reduceEqDiff, exists_false, eq_self, upd_same, Bool.not_eq_true', decide_eq_false_iff_not, ho6, lk_m_put]
  refine ⟨(by simp only [List.length_cons, List.length_nil]; decide), fun q7 H7 A7 => ?_⟩
  refine ⟨o, m, _, xs6, rfl, ⟨⟨dx6, A7.k ho6⟩, A7.k hm6⟩, by omega, fun H8 C8 f8 => ?_⟩
  have F8 : Fr [m] H H8 := (F6.al A7).trans f8
  obtain ⟨⟨dx8, ho8⟩, hm8⟩ := C8
  have X8 : TpL H8 ((rs ++ e.code ++ [Rw.unless 0] ++ codeL s (rs.length + e.code.length + 1) ++ [Rw.go 0]).map Rw.d) (xs6 ++ [.ref q7]) := by
    rw [List.map_append]
    exact TpL.append ((X6.tups A7.tu).tups f8.tu) (.cons (.tup (f8.tu _ _ A7.at_) (.cons (.str _) (.cons (.int _) .nil))) .nil)
  unfold t_Coder_choice_4; refine st_seq ?_
  simp only [tIfS, tRet, tRetN, tAsg, gName, gSub, gCons, gNil, gTup, tDrop, tNext, tVar, tC, tOp, tUn, tTest, tB, tAnd, tOr, tNot, tAndV, tOrV, tNotV, tIf, tCons, tNil, xLst, xTup, xDic, tCB, tCall, tChain, tSl, tPart, tNoPart, rI, rI0, rU, rEq, rNe, scal, rXL, rXT, rXQ, rLenL, rLenT, rLenS, rLenQ, rInt1, rTupL, rLstL, rIsN, rNotN, rInT, rAddS, rLtS, rInS1, rNinS1, rIxS, rSlS, rStL, rCt, rSL, tApp, tPopAt, tPopL, tJoinL, tIndex, xFld, xSet, xMeth, xMake, rGetS, rGetI, rInDS, rInDI, xPutS, xPutI, xGet2S, xGet2I, xPopI, rDctD, rLstD, rCatT, HO.ins.injEq, ixN0, ixN1, ixN2, ixN3, atI0, atI1, atI2, atI3, eqV_str, eqV_int, eqV_is, eqV_si, inV_nil, inV_cons, flatV, List.all_cons, List.all_nil, wd_eq, wd_ne0, wd_ne0', List.getElem?_cons_zero, List.getElem?_cons_succ, List.set_cons_zero, List.set_cons_succ, List.cons_append, List.nil_append, List.append_nil, Nat.reduceAdd, Nat.reduceLT, Option.some.injEq, V.int.injEq, V.str.injEq, V.bl.injEq, V.ref.injEq, HO.lst.injEq, HO.tup.injEq, HO.dK.injEq, List.cons.injEq, exists_eq_left, exists_eq_left', exists_eq_right, exists_eq_right', exists_and_left, exists_and_right, exists_const, exists_eq, exists_eq', and_assoc, true_and, and_true, false_and, and_false, true_or, or_true, false_or, or_false, reduceCtorEq, not_true_eq_false, not_false_eq_true, decide_true, decide_false, decide_eq_true_eq, decide_not, Bool.not_true, Bool.not_false, Bool.false_eq_true, Bool.true_and, Bool.and_true, Bool.false_and, Bool.and_false, Bool.true_or, Bool.or_true, Bool.false_or, Bool.or_false, if_true, if_false, ite_true, ite_false, Nat.reduceEqDiff, exists_false, eq_self, upd_same, Bool.not_eq_true', decide_eq_false_iff_not, ho8, lk_made, hm8]
  refine ⟨(by simp only [List.length_cons, List.length_nil]; decide), fun q9 H9 A9 => ?_⟩
  simp only [tIfS, tRet, tRetN, tAsg, gName, gSub, gCons, gNil, gTup, tDrop, tNext, tVar, tC, tOp, tUn, tTest, tB, tAnd, tOr, tNot, tAndV, tOrV, tNotV, tIf, tCons, tNil, xLst, xTup, xDic, tCB, tCall, tChain, tSl, tPart, tNoPart, rI, rI0, rU, rEq, rNe, scal, rXL, rXT, rXQ, rLenL, rLenT, rLenS, rLenQ, rInt1, rTupL, rLstL, rIsN, rNotN, rInT, rAddS, rLtS, rInS1, rNinS1, rIxS, rSlS, rStL, rCt, rSL, tApp, tPopAt, tPopL, tJoinL, tIndex, xFld, xSet, xMeth, xMake, rGetS, rGetI, rInDS, rInDI, xPutS, xPutI, xGet2S, xGet2I, xPopI, rDctD, rLstD, rCatT, HO.ins.injEq, ixN0, ixN1, ixN2, ixN3, atI0, atI1, atI2, atI3, eqV_str, eqV_int, eqV_is, eqV_si, inV_nil, inV_cons, flatV, List.all_cons, List.all_nil, wd_eq, wd_ne0, wd_ne0', List.getElem?_cons_zero, List.getElem?_cons_succ, List.set_cons_zero, List.set_cons_succ, List.cons_append, List.nil_append, List.append_nil, Nat.reduceAdd, Nat.reduceLT, Option.some.injEq, V.int.injEq, V.str.injEq, V.bl.injEq, V.ref.injEq, HO.lst.injEq, HO.tup.injEq, HO.dK.injEq, List.cons.injEq, exists_eq_left, exists_eq_left', exists_eq_right, exists_eq_right', exists_and_left, exists_and_right, exists_const, exists_eq, exists_eq', and_assoc, true_and, and_true, false_and, and_false, true_or, or_true, false_or, or_false, reduceCtorEq, not_true_eq_false, not_false_eq_true, decide_true, decide_false, decide_eq_true_eq, decide_not, Bool.not_true, Bool.not_false, Bool.false_eq_true, Bool.true_and, Bool.and_true, Bool.false_and, Bool.and_false, Bool.true_or, Bool.or_true, Bool.false_or, Bool.or_false, if_true, if_false, ite_true, ite_false, Nat.reduceEqDiff, exists_false, eq_self, upd_same, Bool.not_eq_true', decide_eq_false_iff_not, A9.k ho8, lk_made, A9.k hm8]
  have ne : o ≠ m := ne_of ho hm (by simp)
  have L8 : (xs6 ++ [V.ref q7]).length = rs.length + e.code.length + (codeL s (rs.length + e.code.length + 1)).length + 2 := by simp only [List.length_append, List.length_cons, List.length_nil]; omega
  refine ⟨rs.length + e.code.length, ixN_len (by omega) (by rw [L3]), fun H10 M10 => ?_⟩
  have F10 : Fr [m] H H10 := (F8.al A9).mu M10 (by simp)
  have ho10 := M10.k (A9.k ho8) ne
  have hm10 := M10.at_
  have U : Tups H8 H10 := A9.tu.trans M10.tu
  have X10 : TpL H10 (((rs ++ e.code) ++ [Rw.unless (rs.length + e.code.length + (codeL s (rs.length + e.code.length + 1)).length + 2)] ++ (codeL s (rs.length + e.code.length + 1) ++ [Rw.go 0])).map Rw.d) ((xs6 ++ [V.ref q7]).set (rs.length + e.code.length) (.ref q9)) := by
    have e2 : (rs ++ e.code).length = rs.length + e.code.length := by simp only [List.length_append]
    rw [← set_mid _ _ (Rw.unless 0), e2, List.map_set]
    refine TpL.set _ ?_ (.tup (M10.tu _ _ A9.at_) (.cons (.str _) (.cons ?_ .nil)))
    · rw [← List.append_assoc]; exact X8.tups U
    · rw [tp_int, L8]
  have LQ : ((rs ++ e.code) ++ [Rw.unless (rs.length + e.code.length + (codeL s (rs.length + e.code.length + 1)).length + 2)] ++ (codeL s (rs.length + e.code.length + 1) ++ [Rw.go 0])).length = rs.length + e.code.length + (codeL s (rs.length + e.code.length + 1)).length + 2 := by
    simp only [List.length_append, List.length_cons, List.length_nil]; omega
  unfold t_Coder_choice_5; refine st_seq ?_
  simp only [tIfS, tRet, tRetN, tAsg, gName, gSub, gCons, gNil, gTup, tDrop, tNext, tVar, tC, tOp, tUn, tTest, tB, tAnd, tOr, tNot, tAndV, tOrV, tNotV, tIf, tCons, tNil, xLst, xTup, xDic, tCB, tCall, tChain, tSl, tPart, tNoPart, rI, rI0, rU, rEq, rNe, scal, rXL, rXT, rXQ, rLenL, rLenT, rLenS, rLenQ, rInt1, rTupL, rLstL, rIsN, rNotN, rInT, rAddS, rLtS, rInS1, rNinS1, rIxS, rSlS, rStL, rCt, rSL, tApp, tPopAt, tPopL, tJoinL, tIndex, xFld, xSet, xMeth, xMake, rGetS, rGetI, rInDS, rInDI, xPutS, xPutI, xGet2S, xGet2I, xPopI, rDctD, rLstD, rCatT, HO.ins.injEq, ixN0, ixN1, ixN2, ixN3, atI0, atI1, atI2, atI3, eqV_str, eqV_int, eqV_is, eqV_si, inV_nil, inV_cons, flatV, List.all_cons, List.all_nil, wd_eq, wd_ne0, wd_ne0', List.getElem?_cons_zero, List.getElem?_cons_succ, List.set_cons_zero, List.set_cons_succ, List.cons_append, List.nil_append, List.append_nil, Nat.reduceAdd, Nat.reduceLT, Option.some.injEq, V.int.injEq, V.str.injEq, V.bl.injEq, V.ref.injEq, HO.lst.injEq, HO.tup.injEq, HO.dK.injEq, List.cons.injEq, exists_eq_left, exists_eq_left', exists_eq_right, exists_eq_right', exists_and_left, exists_and_right, exists_const, exists_eq, exists_eq', and_assoc, true_and, and_true, false_and, and_false, true_or, or_true, false_or, or_false, reduceCtorEq, not_true_eq_false, not_false_eq_true, decide_true, decide_false, decide_eq_true_eq, decide_not, Bool.not_true, Bool.not_false, Bool.false_eq_true, Bool.true_and, Bool.and_true, Bool.false_and, Bool.and_false, Bool.true_or, Bool.or_true, Bool.false_or, Bool.or_false, if_true, if_false, ite_true, ite_false, Nat.reduceEqDiff, exists_false, eq_self, upd_same, Bool.not_eq_true', decide_eq_false_iff_not, ho10, lk_m_lay, F10.tu _ _ ha]
  have lte := lt (rs.length + e.code.length + (codeL s (rs.length + e.code.length + 1)).length + 2)
  refine ⟨o, m, v2, _, _, .row t, rfl, ⟨⟨dx8, ho10⟩, hm10⟩, X10, tt.tups F10.tu, trivial, by simp only [Un.dp]; omega, ok.2.2, by rw [LQ]; simp only [Un.cnt]; omega, fun xs11 H11 C11 X11 f11 => ?_⟩
  rw [LQ] at X11
  simp only [Un.code] at X11
  obtain ⟨⟨dx11, ho11⟩, hm11⟩ := C11
  simp only [tIfS, tRet, tRetN, tAsg, gName, gSub, gCons, gNil, gTup, tDrop, tNext, tVar, tC, tOp, tUn, tTest, tB, tAnd, tOr, tNot, tAndV, tOrV, tNotV, tIf, tCons, tNil, xLst, xTup, xDic, tCB, tCall, tChain, tSl, tPart, tNoPart, rI, rI0, rU, rEq, rNe, scal, rXL, rXT, rXQ, rLenL, rLenT, rLenS, rLenQ, rInt1, rTupL, rLstL, rIsN, rNotN, rInT, rAddS, rLtS, rInS1, rNinS1, rIxS, rSlS, rStL, rCt, rSL, tApp, tPopAt, tPopL, tJoinL, tIndex, xFld, xSet, xMeth, xMake, rGetS, rGetI, rInDS, rInDI, xPutS, xPutI, xGet2S, xGet2I, xPopI, rDctD, rLstD, rCatT, HO.ins.injEq, ixN0, ixN1, ixN2, ixN3, atI0, atI1, atI2, atI3, eqV_str, eqV_int, eqV_is, eqV_si, inV_nil, inV_cons, flatV, List.all_cons, List.all_nil, wd_eq, wd_ne0, wd_ne0', List.getElem?_cons_zero, List.getElem?_cons_succ, List.set_cons_zero, List.set_cons_succ, List.cons_append, List.nil_append, List.append_nil, Nat.reduceAdd, Nat.reduceLT, Option.some.injEq, V.int.injEq, V.str.injEq, V.bl.injEq, V.ref.injEq, HO.lst.injEq, HO.tup.injEq, HO.dK.injEq, List.cons.injEq, exists_eq_left, exists_eq_left', exists_eq_right, exists_eq_right', exists_and_left, exists_and_right, exists_const, exists_eq, exists_eq', and_assoc, true_and, and_true, false_and, and_false, true_or, or_true, false_or, or_false, reduceCtorEq, not_true_eq_false, not_false_eq_true, decide_true, decide_false, decide_eq_true_eq, decide_not, Bool.not_true, Bool.not_false, Bool.false_eq_true, Bool.true_and, Bool.and_true, Bool.false_and, Bool.and_false, Bool.true_or, Bool.or_true, Bool.false_or, Bool.or_false, if_true, if_false, ite_true, ite_false, Nat.reduceEqDiff, exists_false, eq_self, upd_same, Bool.not_eq_true', decide_eq_false_iff_not, ho11, lk_made, hm11]
  refine ⟨(by simp only [List.length_cons, List.length_nil]; decide), fun q12 H12 A12 => ?_⟩
  simp only [tIfS, tRet, tRetN, tAsg, gName, gSub, gCons, gNil, gTup, tDrop, tNext, tVar, tC, tOp, tUn, tTest, tB, tAnd, tOr, tNot, tAndV, tOrV, tNotV, tIf, tCons, tNil, xLst, xTup, xDic, tCB, tCall, tChain, tSl, tPart, tNoPart, rI, rI0, rU, rEq, rNe, scal, rXL, rXT, rXQ, rLenL, rLenT, rLenS, rLenQ, rInt1, rTupL, rLstL, rIsN, rNotN, rInT, rAddS, rLtS, rInS1, rNinS1, rIxS, rSlS, rStL, rCt, rSL, tApp, tPopAt, tPopL, tJoinL, tIndex, xFld, xSet, xMeth, xMake, rGetS, rGetI, rInDS, rInDI, xPutS, xPutI, xGet2S, xGet2I, xPopI, rDctD, rLstD, rCatT, HO.ins.injEq, ixN0, ixN1, ixN2, ixN3, atI0, atI1, atI2, atI3, eqV_str, eqV_int, eqV_is, eqV_si, inV_nil, inV_cons, flatV, List.all_cons, List.all_nil, wd_eq, wd_ne0, wd_ne0', List.getElem?_cons_zero, List.getElem?_cons_succ, List.set_cons_zero, List.set_cons_succ, List.cons_append, List.nil_append, List.append_nil, Nat.reduceAdd, Nat.reduceLT, Option.some.injEq, V.int.injEq, V.str.injEq, V.bl.injEq, V.ref.injEq, HO.lst.injEq, HO.tup.injEq, HO.dK.injEq, List.cons.injEq, exists_eq_left, exists_eq_left', exists_eq_right, exists_eq_right', exists_and_left, exists_and_right, exists_const, exists_eq, exists_eq', and_assoc, true_and, and_true, false_and, and_false, true_or, or_true, false_or, or_false, reduceCtorEq, not_true_eq_false, not_false_eq_true, decide_true, decide_false, decide_eq_true_eq, decide_not, Bool.not_true, Bool.not_false, Bool.false_eq_true, Bool.true_and, Bool.and_true, Bool.false_and, Bool.and_false, Bool.true_or, Bool.or_true, Bool.false_or, Bool.or_false, if_true, if_false, ite_true, ite_false, Nat.reduceEqDiff, exists_false, eq_self, upd_same, Bool.not_eq_true', decide_eq_false_iff_not, A12.k ho11, lk_made, A12.k hm11]
  have L11 : xs11.length = rs.length + e.code.length + (codeL s (rs.length + e.code.length + 1)).length + 2 + (codeL t (rs.length + e.code.length + (codeL s (rs.length + e.code.length + 1)).length + 2)).length := by
    rw [X11.length, List.length_map, List.length_append, LQ]
  refine ⟨rs.length + e.code.length + 1 + (codeL s (rs.length + e.code.length + 1)).length, ixN_len (by omega) (by rw [L6]), fun H13 M13 => ?_⟩
  refine k _ _ ⟨⟨dx11, M13.k (A12.k ho11) ne⟩, M13.at_⟩ ?_ (((F10.trans f11).al A12).mu M13 (by simp))
  have e1 : rs ++ Un.code (.st (.ite e s t)) rs.length = ((rs ++ e.code ++ [Rw.unless (rs.length + e.code.length + (codeL s (rs.length + e.code.length + 1)).length + 2)] ++ codeL s (rs.length + e.code.length + 1)) ++
      [Rw.go (rs.length + e.code.length + (codeL s (rs.length + e.code.length + 1)).length + 2 + (codeL t (rs.length + e.code.length + (codeL s (rs.length + e.code.length + 1)).length + 2)).length)] ++ codeL t (rs.length + e.code.length + (codeL s (rs.length + e.code.length + 1)).length + 2)) := by
    simp only [Un.code, Sm.code, List.append_assoc]
  have e2 : (rs ++ e.code ++ [Rw.unless (rs.length + e.code.length + (codeL s (rs.length + e.code.length + 1)).length + 2)] ++ codeL s (rs.length + e.code.length + 1)).length = rs.length + e.code.length + 1 + (codeL s (rs.length + e.code.length + 1)).length := by
    simp only [List.length_append, List.length_cons, List.length_nil]
  rw [e1, ← set_mid _ _ (Rw.go 0), e2, List.map_set]
  refine TpL.set _ ?_ (.tup (M13.tu _ _ A12.at_) (.cons (.str _) (.cons ?_ .nil)))
  · have := (X11.tups A12.tu).tups M13.tu
    simpa only [List.append_assoc] using this
  · rw [tp_int, L11]
theorem rd_coded {K : PySem.W.Frag} {c : CA} {vs : List V} {H : Hp} {Q : VK} {E : XK} (h : sp_coded vs H Q E) : t_coded K c { nx := fun _ H' => Q .non H', rt := Q } (start ["_", "_"] vs) H := by
  obtain ⟨v, p, rfl, hv, ⟨ok, hd, hc⟩, k⟩ := h
  show t_coded K c _ [some v, none] H
  unfold t_coded; refine st_seq ?_
  simp only [tIfS, tRet, tRetN, tAsg, gName, gSub, gCons, gNil, gTup, tDrop, tNext, tVar, tC, tOp, tUn, tTest, tB, tAnd, tOr, tNot, tAndV, tOrV, tNotV, tIf, tCons, tNil, xLst, xTup, xDic, tCB, tCall, tChain, tSl, tPart, tNoPart, rI, rI0, rU, rEq, rNe, scal, rXL, rXT, rXQ, rLenL, rLenT, rLenS, rLenQ, rInt1, rTupL, rLstL, rIsN, rNotN, rInT, rAddS, rLtS, rInS1, rNinS1, rIxS, rSlS, rStL, rCt, rSL, tApp, tPopAt, tPopL, tJoinL, tIndex, xFld, xSet, xMeth, xMake, rGetS, rGetI, rInDS, rInDI, xPutS, xPutI, xGet2S, xGet2I, xPopI, rDctD, rLstD, rCatT, HO.ins.injEq, ixN0, ixN1, ixN2, ixN3, atI0, atI1, atI2, atI3, eqV_str, eqV_int, eqV_is, eqV_si, inV_nil, inV_cons, flatV, List.all_cons, List.all_nil, wd_eq, wd_ne0, wd_ne0', List.getElem?_cons_zero, List.getElem?_cons_succ, List.set_cons_zero, List.set_cons_succ, List.cons_append, List.nil_append, List.append_nil, Nat.reduceAdd, Nat.reduceLT, Option.some.injEq, V.int.injEq, V.str.injEq, V.bl.injEq, V.ref.injEq, HO.lst.injEq, HO.tup.injEq, HO.dK.injEq, List.cons.injEq, exists_eq_left, exists_eq_left', exists_eq_right, exists_eq_right', exists_and_left, exists_and_right, exists_const, exists_eq, exists_eq', and_assoc, true_and, and_true, false_and, and_false, true_or, or_true, false_or, or_false, reduceCtorEq, not_true_eq_false, not_false_eq_true, decide_true, decide_false, decide_eq_true_eq, decide_not, Bool.not_true, Bool.not_false, Bool.false_eq_true, Bool.true_and, Bool.and_true, Bool.false_and, Bool.and_false, Bool.true_or, Bool.or_true, Bool.false_or, Bool.or_false, if_true, if_false, ite_true, ite_false, Nat.reduceEqDiff, exists_false, eq_self, upd_same, Bool.not_eq_true', decide_eq_false_iff_not]
  intro o dx H1 A1
  refine ⟨o, dx, rfl, A1.at_, fun m H2 hm C2 f2 => ⟨rfl, ?_⟩⟩
  have F2 : Fr [] H H2 := (A1.fr.trans f2).drop A1.new
  have hm0 : H m = none := by
    cases e : H m with
    | none => rfl
    | some u => rw [A1.k e] at hm; cases hm
  obtain ⟨⟨dx2, ho2⟩, hm2⟩ := C2
  unfold t_coded_1; refine st_seq ?_
  simp only [tIfS, tRet, tRetN, tAsg, gName, gSub, gCons, gNil, gTup, tDrop, tNext, tVar, tC, tOp, tUn, tTest, tB, tAnd, tOr, tNot, tAndV, tOrV, tNotV, tIf, tCons, tNil, xLst, xTup, xDic, tCB, tCall, tChain, tSl, tPart, tNoPart, rI, rI0, rU, rEq, rNe, scal, rXL, rXT, rXQ, rLenL, rLenT, rLenS, rLenQ, rInt1, rTupL, rLstL, rIsN, rNotN, rInT, rAddS, rLtS, rInS1, rNinS1, rIxS, rSlS, rStL, rCt, rSL, tApp, tPopAt, tPopL, tJoinL, tIndex, xFld, xSet, xMeth, xMake, rGetS, rGetI, rInDS, rInDI, xPutS, xPutI, xGet2S, xGet2I, xPopI, rDctD, rLstD, rCatT, HO.ins.injEq, ixN0, ixN1, ixN2, ixN3, atI0, atI1, atI2, atI3, eqV_str, eqV_int, eqV_is, eqV_si, inV_nil, inV_cons, flatV, List.all_cons, List.all_nil, wd_eq, wd_ne0, wd_ne0', List.getElem?_cons_zero, List.getElem?_cons_succ, List.set_cons_zero, List.set_cons_succ, List.cons_append, List.nil_append, List.append_nil, Nat.reduceAdd, Nat.reduceLT, Option.some.injEq, V.int.injEq, V.str.injEq, V.bl.injEq, V.ref.injEq, HO.lst.injEq, HO.tup.injEq, HO.dK.injEq, List.cons.injEq, exists_eq_left, exists_eq_left', exists_eq_right, exists_eq_right', exists_and_left, exists_and_right, exists_const, exists_eq, exists_eq', and_assoc, true_and, and_true, false_and, and_false, true_or, or_true, false_or, or_false, reduceCtorEq, not_true_eq_false, not_false_eq_true, decide_true, decide_false, decide_eq_true_eq, decide_not, Bool.not_true, Bool.not_false, Bool.false_eq_true, Bool.true_and, Bool.and_true, Bool.false_and, Bool.and_false, Bool.true_or, Bool.or_true, Bool.false_or, Bool.or_false, if_true, if_false, ite_true, ite_false, Nat.reduceEqDiff, exists_false, eq_self, upd_same, Bool.not_eq_true', decide_eq_false_iff_not, ho2, lk_m_lay]
  refine ⟨o, m, v, [], [], .row p, rfl, ⟨⟨dx2, ho2⟩, hm2⟩, .nil, hv.tups F2.tu, trivial, by simp only [Un.dp]; omega, ok, by simp only [Un.cnt, List.length_nil]; omega, fun xs3 H3 C3 X3 f3 => ?_⟩
  obtain ⟨⟨dx3, ho3⟩, hm3⟩ := C3
  simp only [List.nil_append, List.length_nil, Un.code] at X3
  have l3 := len35L (b := 0) ok
  unfold t_coded_2; refine st_seq ?_
  simp only [tIfS, tRet, tRetN, tAsg, gName, gSub, gCons, gNil, gTup, tDrop, tNext, tVar, tC, tOp, tUn, tTest, tB, tAnd, tOr, tNot, tAndV, tOrV, tNotV, tIf, tCons, tNil, xLst, xTup, xDic, tCB, tCall, tChain, tSl, tPart, tNoPart, rI, rI0, rU, rEq, rNe, scal, rXL, rXT, rXQ, rLenL, rLenT, rLenS, rLenQ, rInt1, rTupL, rLstL, rIsN, rNotN, rInT, rAddS, rLtS, rInS1, rNinS1, rIxS, rSlS, rStL, rCt, rSL, tApp, tPopAt, tPopL, tJoinL, tIndex, xFld, xSet, xMeth, xMake, rGetS, rGetI, rInDS, rInDI, xPutS, xPutI, xGet2S, xGet2I, xPopI, rDctD, rLstD, rCatT, HO.ins.injEq, ixN0, ixN1, ixN2, ixN3, atI0, atI1, atI2, atI3, eqV_str, eqV_int, eqV_is, eqV_si, inV_nil, inV_cons, flatV, List.all_cons, List.all_nil, wd_eq, wd_ne0, wd_ne0', List.getElem?_cons_zero, List.getElem?_cons_succ, List.set_cons_zero, List.set_cons_succ, List.cons_append, List.nil_append, List.append_nil, Nat.reduceAdd, Nat.reduceLT, Option.some.injEq, V.int.injEq, V.str.injEq, V.bl.injEq, V.ref.injEq, HO.lst.injEq, HO.tup.injEq, HO.dK.injEq, List.cons.injEq, exists_eq_left, exists_eq_left', exists_eq_right, exists_eq_right', exists_and_left, exists_and_right, exists_const, exists_eq, exists_eq', and_assoc, true_and, and_true, false_and, and_false, true_or, or_true, false_or, or_false, reduceCtorEq, not_true_eq_false, not_false_eq_true, decide_true, decide_false, decide_eq_true_eq, decide_not, Bool.not_true, Bool.not_false, Bool.false_eq_true, Bool.true_and, Bool.and_true, Bool.false_and, Bool.and_false, Bool.true_or, Bool.or_true, Bool.false_or, Bool.or_false, if_true, if_false, ite_true, ite_false, Nat.reduceEqDiff, exists_false, eq_self, upd_same, Bool.not_eq_true', decide_eq_false_iff_not, ho3, lk_m_put]
  refine ⟨(by simp only [List.length_cons, List.length_nil]; decide), fun q H4 A4 => ?_⟩
  refine ⟨o, m, _, xs3, rfl, ⟨⟨dx3, A4.k ho3⟩, A4.k hm3⟩, by rw [X3.length, List.length_map]; omega, fun H5 C5 f5 => ?_⟩
  obtain ⟨⟨dx5, ho5⟩, hm5⟩ := C5
  simp only [tIfS, tRet, tRetN, tAsg, gName, gSub, gCons, gNil, gTup, tDrop, tNext, tVar, tC, tOp, tUn, tTest, tB, tAnd, tOr, tNot, tAndV, tOrV, tNotV, tIf, tCons, tNil, xLst, xTup, xDic, tCB, tCall, tChain, tSl, tPart, tNoPart, rI, rI0, rU, rEq, rNe, scal, rXL, rXT, rXQ, rLenL, rLenT, rLenS, rLenQ, rInt1, rTupL, rLstL, rIsN, rNotN, rInT, rAddS, rLtS, rInS1, rNinS1, rIxS, rSlS, rStL, rCt, rSL, tApp, tPopAt, tPopL, tJoinL, tIndex, xFld, xSet, xMeth, xMake, rGetS, rGetI, rInDS, rInDI, xPutS, xPutI, xGet2S, xGet2I, xPopI, rDctD, rLstD, rCatT, HO.ins.injEq, ixN0, ixN1, ixN2, ixN3, atI0, atI1, atI2, atI3, eqV_str, eqV_int, eqV_is, eqV_si, inV_nil, inV_cons, flatV, List.all_cons, List.all_nil, wd_eq, wd_ne0, wd_ne0', List.getElem?_cons_zero, List.getElem?_cons_succ, List.set_cons_zero, List.set_cons_succ, List.cons_append, List.nil_append, List.append_nil, Nat.reduceAdd, Nat.reduceLT, Option.some.injEq, V.int.injEq, V.str.injEq, V.bl.injEq, V.ref.injEq, HO.lst.injEq, HO.tup.injEq, HO.dK.injEq, List.cons.injEq, exists_eq_left, exists_eq_left', exists_eq_right, exists_eq_right', exists_and_left, exists_and_right, exists_const, exists_eq, exists_eq', and_assoc, true_and, and_true, false_and, and_false, true_or, or_true, false_or, or_false, reduceCtorEq, not_true_eq_false, not_false_eq_true, decide_true, decide_false, decide_eq_true_eq, decide_not, Bool.not_true, Bool.not_false, Bool.false_eq_true, Bool.true_and, Bool.and_true, Bool.false_and, Bool.and_false, Bool.true_or, Bool.or_true, Bool.false_or, Bool.or_false, if_true, if_false, ite_true, ite_false, Nat.reduceEqDiff, exists_false, eq_self, upd_same, Bool.not_eq_true', decide_eq_false_iff_not, ho5, lk_made, hm5]
  intro q6 H6 A6
  refine k _ _ (.tup A6.at_ ?_) (((((F2.sub0 (S := [m])).trans f3).al A4).trans f5).al A6 |>.drop hm0)
  unfold progC
  rw [List.map_append]
  exact TpL.append (((X3.tups A4.tu).tups f5.tu).tups A6.tu) (.cons (.tup (A6.k (f5.tu _ _ A4.at_)) (.cons (.str _) .nil)) .nil)
end Hn

namespace Hn
open PySem PySem.Spec PyProof.Rows L2
/-- law from 2 -/
def t_law_2 (K : PySem.W.Frag) : TS :=
  (tSeq (tAsg (tCall sp_L_coded [] E0 (tCons (tVar 2) tNil)) (gName 3))
    (tRet (tAndV (tCall (sp_L_alike 40) [] E0 (tCons (tCall sp_coded [] E0 (tCons (tVar 2) tNil)) (tCons (tVar 3) tNil))) (tCall (sp_L_alike 40) [] E0 (tCons (tCall sp_coded [] E0 (tCons (tVar 2) tNil)) (tCons (tVar 3) tNil))))))

/-- law from 1 -/
def t_law_1 (K : PySem.W.Frag) : TS :=
  tSeq (tAsg (tCall sp_L_program [] E0 (tCons (tVar 1) (tCons (tC (.int 3)) tNil))) (gName 2)) (t_law_2 K)

/-- law -/
def t_law (K : PySem.W.Frag) : TS :=
  tSeq (tAsg (tCall (sp_L_script K) [] E0 (tCons (tVar 0) tNil)) (gName 1)) (t_law_1 K)

theorem Rw.depth1 (r : Rw) : r.d.depth = 1 := by cases r <;> simp [Rw.d, PyData.depth, PyData.depthAll]
theorem rows_depth (l : List Rw) : (rowsD l).depth ≤ 2 := by
  unfold rowsD
  simp only [PyData.depth]
  have : PyData.depthAll (l.map Rw.d) ≤ 1 := by
    induction l with
    | nil => simp [PyData.depthAll]
    | cons a r ih => simp only [List.map_cons, PyData.depthAll, Rw.depth1]; omega
  omega
theorem rd_law {K : PySem.W.Frag} {vs : List V} {H : Hp} {Q : VK} {E : XK} (h : sp_law K vs H Q E) : t_law K { nx := fun _ H' => Q .non H', rt := Q } (start ["_", "_", "_", "_"] vs) H := by
  obtain ⟨a, ns, rfl, hS, hl, k⟩ := h
  show t_law K _ [some (.ref a), none, none, none] H
  unfold t_law; refine st_seq ?_
  simp only [tIfS, tRet, tRetN, tAsg, gName, gSub, gCons, gNil, gTup, tDrop, tNext, tVar, tC, tOp, tUn, tTest, tB, tAnd, tOr, tNot, tAndV, tOrV, tNotV, tIf, tCons, tNil, xLst, xTup, xDic, tCB, tCall, tChain, tSl, tPart, tNoPart, rI, rI0, rU, rEq, rNe, scal, rXL, rXT, rXQ, rLenL, rLenT, rLenS, rLenQ, rInt1, rTupL, rLstL, rIsN, rNotN, rInT, rAddS, rLtS, rInS1, rNinS1, rIxS, rSlS, rStL, rCt, rSL, tApp, tPopAt, tPopL, tJoinL, tIndex, xFld, xSet, xMeth, xMake, rGetS, rGetI, rInDS, rInDI, xPutS, xPutI, xGet2S, xGet2I, xPopI, rDctD, rLstD, rCatT, HO.ins.injEq, ixN0, ixN1, ixN2, ixN3, atI0, atI1, atI2, atI3, eqV_str, eqV_int, eqV_is, eqV_si, inV_nil, inV_cons, flatV, List.all_cons, List.all_nil, wd_eq, wd_ne0, wd_ne0', List.getElem?_cons_zero, List.getElem?_cons_succ, List.set_cons_zero, List.set_cons_succ, List.cons_append, List.nil_append, List.append_nil, Nat.reduceAdd, Nat.reduceLT, Option.some.injEq, V.int.injEq, V.str.injEq, V.bl.injEq, V.ref.injEq, HO.lst.injEq, HO.tup.injEq, HO.dK.injEq, List.cons.injEq, exists_eq_left, exists_eq_left', exists_eq_right, exists_eq_right', exists_and_left, exists_and_right, exists_const, exists_eq, exists_eq', and_assoc, true_and, and_true, false_and, and_false, true_or, or_true, false_or, or_false, reduceCtorEq, not_true_eq_false, not_false_eq_true, decide_true, decide_false, decide_eq_true_eq, decide_not, Bool.not_true, Bool.not_false, Bool.false_eq_true, Bool.true_and, Bool.and_true, Bool.false_and, Bool.and_false, Bool.true_or, Bool.or_true, Bool.false_or, Bool.or_false, if_true, if_false, ite_true, ite_false, Nat.reduceEqDiff, exists_false, eq_self, upd_same, Bool.not_eq_true', decide_eq_false_iff_not]
  refine ⟨a, ns, rfl, hS, hl, fun b l H1 B1 _ => ?_⟩
  unfold t_law_1; refine st_seq ?_
  simp only [tIfS, tRet, tRetN, tAsg, gName, gSub, gCons, gNil, gTup, tDrop, tNext, tVar, tC, tOp, tUn, tTest, tB, tAnd, tOr, tNot, tAndV, tOrV, tNotV, tIf, tCons, tNil, xLst, xTup, xDic, tCB, tCall, tChain, tSl, tPart, tNoPart, rI, rI0, rU, rEq, rNe, scal, rXL, rXT, rXQ, rLenL, rLenT, rLenS, rLenQ, rInt1, rTupL, rLstL, rIsN, rNotN, rInT, rAddS, rLtS, rInS1, rNinS1, rIxS, rSlS, rStL, rCt, rSL, tApp, tPopAt, tPopL, tJoinL, tIndex, xFld, xSet, xMeth, xMake, rGetS, rGetI, rInDS, rInDI, xPutS, xPutI, xGet2S, xGet2I, xPopI, rDctD, rLstD, rCatT, HO.ins.injEq, ixN0, ixN1, ixN2, ixN3, atI0, atI1, atI2, atI3, eqV_str, eqV_int, eqV_is, eqV_si, inV_nil, inV_cons, flatV, List.all_cons, List.all_nil, wd_eq, wd_ne0, wd_ne0', List.getElem?_cons_zero, List.getElem?_cons_succ, List.set_cons_zero, List.set_cons_succ, List.cons_append, List.nil_append, List.append_nil, Nat.reduceAdd, Nat.reduceLT, Option.some.injEq, V.int.injEq, V.str.injEq, V.bl.injEq, V.ref.injEq, HO.lst.injEq, HO.tup.injEq, HO.dK.injEq, List.cons.injEq, exists_eq_left, exists_eq_left', exists_eq_right, exists_eq_right', exists_and_left, exists_and_right, exists_const, exists_eq, exists_eq', and_assoc, true_and, and_true, false_and, and_false, true_or, or_true, false_or, or_false, reduceCtorEq, not_true_eq_false, not_false_eq_true, decide_true, decide_false, decide_eq_true_eq, decide_not, Bool.not_true, Bool.not_false, Bool.false_eq_true, Bool.true_and, Bool.and_true, Bool.false_and, Bool.and_false, Bool.true_or, Bool.or_true, Bool.false_or, Bool.or_false, if_true, if_false, ite_true, ite_false, Nat.reduceEqDiff, exists_false, eq_self, upd_same, Bool.not_eq_true', decide_eq_false_iff_not]
  refine ⟨b, l, rfl, B1, fun p v H2 ok hd hc tp B2 _ => ?_⟩
  have pk : PrOk p := ⟨ok, by omega, by omega⟩
  unfold t_law_2; refine st_seq ?_
  simp only [tIfS, tRet, tRetN, tAsg, gName, gSub, gCons, gNil, gTup, tDrop, tNext, tVar, tC, tOp, tUn, tTest, tB, tAnd, tOr, tNot, tAndV, tOrV, tNotV, tIf, tCons, tNil, xLst, xTup, xDic, tCB, tCall, tChain, tSl, tPart, tNoPart, rI, rI0, rU, rEq, rNe, scal, rXL, rXT, rXQ, rLenL, rLenT, rLenS, rLenQ, rInt1, rTupL, rLstL, rIsN, rNotN, rInT, rAddS, rLtS, rInS1, rNinS1, rIxS, rSlS, rStL, rCt, rSL, tApp, tPopAt, tPopL, tJoinL, tIndex, xFld, xSet, xMeth, xMake, rGetS, rGetI, rInDS, rInDI, xPutS, xPutI, xGet2S, xGet2I, xPopI, rDctD, rLstD, rCatT, HO.ins.injEq, ixN0, ixN1, ixN2, ixN3, atI0, atI1, atI2, atI3, eqV_str, eqV_int, eqV_is, eqV_si, inV_nil, inV_cons, flatV, List.all_cons, List.all_nil, wd_eq, wd_ne0, wd_ne0', List.getElem?_cons_zero, List.getElem?_cons_succ, List.set_cons_zero, List.set_cons_succ, List.cons_append, List.nil_append, List.append_nil, Nat.reduceAdd, Nat.reduceLT, Option.some.injEq, V.int.injEq, V.str.injEq, V.bl.injEq, V.ref.injEq, HO.lst.injEq, HO.tup.injEq, HO.dK.injEq, List.cons.injEq, exists_eq_left, exists_eq_left', exists_eq_right, exists_eq_right', exists_and_left, exists_and_right, exists_const, exists_eq, exists_eq', and_assoc, true_and, and_true, false_and, and_false, true_or, or_true, false_or, or_false, reduceCtorEq, not_true_eq_false, not_false_eq_true, decide_true, decide_false, decide_eq_true_eq, decide_not, Bool.not_true, Bool.not_false, Bool.false_eq_true, Bool.true_and, Bool.and_true, Bool.false_and, Bool.and_false, Bool.true_or, Bool.or_true, Bool.false_or, Bool.or_false, if_true, if_false, ite_true, ite_false, Nat.reduceEqDiff, exists_false, eq_self, upd_same, Bool.not_eq_true', decide_eq_false_iff_not]
  refine ⟨v, p, rfl, tp, pk, fun v' H3 t3 f3 => ?_⟩
  simp only [tIfS, tRet, tRetN, tAsg, gName, gSub, gCons, gNil, gTup, tDrop, tNext, tVar, tC, tOp, tUn, tTest, tB, tAnd, tOr, tNot, tAndV, tOrV, tNotV, tIf, tCons, tNil, xLst, xTup, xDic, tCB, tCall, tChain, tSl, tPart, tNoPart, rI, rI0, rU, rEq, rNe, scal, rXL, rXT, rXQ, rLenL, rLenT, rLenS, rLenQ, rInt1, rTupL, rLstL, rIsN, rNotN, rInT, rAddS, rLtS, rInS1, rNinS1, rIxS, rSlS, rStL, rCt, rSL, tApp, tPopAt, tPopL, tJoinL, tIndex, xFld, xSet, xMeth, xMake, rGetS, rGetI, rInDS, rInDI, xPutS, xPutI, xGet2S, xGet2I, xPopI, rDctD, rLstD, rCatT, HO.ins.injEq, ixN0, ixN1, ixN2, ixN3, atI0, atI1, atI2, atI3, eqV_str, eqV_int, eqV_is, eqV_si, inV_nil, inV_cons, flatV, List.all_cons, List.all_nil, wd_eq, wd_ne0, wd_ne0', List.getElem?_cons_zero, List.getElem?_cons_succ, List.set_cons_zero, List.set_cons_succ, List.cons_append, List.nil_append, List.append_nil, Nat.reduceAdd, Nat.reduceLT, Option.some.injEq, V.int.injEq, V.str.injEq, V.bl.injEq, V.ref.injEq, HO.lst.injEq, HO.tup.injEq, HO.dK.injEq, List.cons.injEq, exists_eq_left, exists_eq_left', exists_eq_right, exists_eq_right', exists_and_left, exists_and_right, exists_const, exists_eq, exists_eq', and_assoc, true_and, and_true, false_and, and_false, true_or, or_true, false_or, or_false, reduceCtorEq, not_true_eq_false, not_false_eq_true, decide_true, decide_false, decide_eq_true_eq, decide_not, Bool.not_true, Bool.not_false, Bool.false_eq_true, Bool.true_and, Bool.and_true, Bool.false_and, Bool.and_false, Bool.true_or, Bool.or_true, Bool.false_or, Bool.or_false, if_true, if_false, ite_true, ite_false, Nat.reduceEqDiff, exists_false, eq_self, upd_same, Bool.not_eq_true', decide_eq_false_iff_not]
  refine ⟨v, p, rfl, tp.tups f3.tu, pk, fun v4 H4 t4 f4 => ?_⟩
  have hdp := rows_depth (progC p)
  refine ⟨_, _, rowsD (progC p), rfl, t4.rp, (t3.tups f4.tu).rp, by omega, ?_⟩
  simp only [tIfS, tRet, tRetN, tAsg, gName, gSub, gCons, gNil, gTup, tDrop, tNext, tVar, tC, tOp, tUn, tTest, tB, tAnd, tOr, tNot, tAndV, tOrV, tNotV, tIf, tCons, tNil, xLst, xTup, xDic, tCB, tCall, tChain, tSl, tPart, tNoPart, rI, rI0, rU, rEq, rNe, scal, rXL, rXT, rXQ, rLenL, rLenT, rLenS, rLenQ, rInt1, rTupL, rLstL, rIsN, rNotN, rInT, rAddS, rLtS, rInS1, rNinS1, rIxS, rSlS, rStL, rCt, rSL, tApp, tPopAt, tPopL, tJoinL, tIndex, xFld, xSet, xMeth, xMake, rGetS, rGetI, rInDS, rInDI, xPutS, xPutI, xGet2S, xGet2I, xPopI, rDctD, rLstD, rCatT, HO.ins.injEq, ixN0, ixN1, ixN2, ixN3, atI0, atI1, atI2, atI3, eqV_str, eqV_int, eqV_is, eqV_si, inV_nil, inV_cons, flatV, List.all_cons, List.all_nil, wd_eq, wd_ne0, wd_ne0', List.getElem?_cons_zero, List.getElem?_cons_succ, List.set_cons_zero, List.set_cons_succ, List.cons_append, List.nil_append, List.append_nil, Nat.reduceAdd, Nat.reduceLT, Option.some.injEq, V.int.injEq, V.str.injEq, V.bl.injEq, V.ref.injEq, HO.lst.injEq, HO.tup.injEq, HO.dK.injEq, List.cons.injEq, exists_eq_left, exists_eq_left', exists_eq_right, exists_eq_right', exists_and_left, exists_and_right, exists_const, exists_eq, exists_eq', and_assoc, true_and, and_true, false_and, and_false, true_or, or_true, false_or, or_false, reduceCtorEq, not_true_eq_false, not_false_eq_true, decide_true, decide_false, decide_eq_true_eq, decide_not, Bool.not_true, Bool.not_false, Bool.false_eq_true, Bool.true_and, Bool.and_true, Bool.false_and, Bool.and_false, Bool.true_or, Bool.or_true, Bool.false_or, Bool.or_false, if_true, if_false, ite_true, ite_false, Nat.reduceEqDiff, exists_false, eq_self, upd_same, Bool.not_eq_true', decide_eq_false_iff_not]
  refine ⟨v, p, rfl, (tp.tups f3.tu).tups f4.tu, pk, fun v5 H5 t5 f5 => ?_⟩
  exact ⟨_, _, rowsD (progC p), rfl, t5.rp, ((t3.tups f4.tu).tups f5.tu).rp, by omega, k _⟩
end Hn

namespace Hn
open PySem PySem.Spec PyProof.Rows L2
/-! ### the text by places -/
def topS (i : Nat) : Stmt := PySem.Challenge.pw_hunch_k02_plain_rows.main.body.getD i (.Pass ⟨0, 0, 0, 0⟩)
abbrev s_Coder___init__ : Stmt := inClass (topS 1) 0
abbrev s_Coder_put : Stmt := inClass (topS 1) 1
abbrev s_Coder_part : Stmt := inClass (topS 1) 2
abbrev s_Coder_lay : Stmt := inClass (topS 1) 3
abbrev s_Coder_choice : Stmt := inClass (topS 1) 4
abbrev s_Coder_loop : Stmt := inClass (topS 1) 5
abbrev s_coded : Stmt := topS 2
abbrev s_L_script : Stmt := topS 4
abbrev s_L_take : Stmt := topS 5
abbrev s_L_alike : Stmt := topS 6
abbrev s_L_text : Stmt := topS 7
abbrev s_L_name : Stmt := topS 8
abbrev s_L_part : Stmt := topS 9
abbrev s_L_row : Stmt := topS 10
abbrev s_L_statement : Stmt := topS 11
abbrev s_L_counted : Stmt := topS 12
abbrev s_L_program : Stmt := topS 13
abbrev s_L_value : Stmt := topS 14
abbrev s_L_names : Stmt := topS 15
abbrev s_L_part_code : Stmt := topS 16
abbrev s_L_code : Stmt := topS 17
abbrev s_L_coded : Stmt := topS 18
abbrev s_law : Stmt := topS 19
/-! ### what the defs lean on -/
structure Top (K : PySem.W.Frag) (mg : Str → Option Value) (c : CA) : Prop where
  d_L_script : DefAt K mg "_law_script" s_L_script
  d_L_take : DefAt K mg "_law_take" s_L_take
  d_L_name : DefAt K mg "_law_name" s_L_name
  d_L_text : DefAt K mg "_law_text" s_L_text
  d_L_part : DefAt K mg "_law_part" s_L_part
  d_L_row : DefAt K mg "_law_row" s_L_row
  d_L_statement : DefAt K mg "_law_statement" s_L_statement
  d_L_counted : DefAt K mg "_law_counted" s_L_counted
  d_L_program : DefAt K mg "_law_program" s_L_program
  d_L_part_code : DefAt K mg "_law_part_code" s_L_part_code
  d_L_code : DefAt K mg "_law_code" s_L_code
  d_L_coded : DefAt K mg "_law_coded" s_L_coded
  d_Coder___init__ : InitAt K c.coder "Coder.__init__" s_Coder___init__
  d_Coder_put : MethAt K c.coder "put" "Coder.put" s_Coder_put
  d_Coder_part : MethAt K c.coder "part" "Coder.part" s_Coder_part
  d_Coder_lay : MethAt K c.coder "lay" "Coder.lay" s_Coder_lay
  d_Coder_choice : MethAt K c.coder "choice" "Coder.choice" s_Coder_choice
  d_Coder_loop : MethAt K c.coder "loop" "Coder.loop" s_Coder_loop
  d_coded : DefAt K mg "coded" s_coded
  d_L_alike : DefAt K mg "_law_alike" s_L_alike
  d_law : DefAt K mg "law" s_law
  cl_Coder : Cls K c.coder
  mg_Coder : mg "Coder" = some (.ref c.coder)
  na_Coder_made : NoAttr K c.coder "made"
  g_len : mg "len" = none
  g_range : mg "range" = none
  g_isinstance : mg "isinstance" = none
  g_int : mg "int" = none
  g_str : mg "str" = none
  g_list : mg "list" = none
  g_tuple : mg "tuple" = none
  g_dict : mg "dict" = none
  g_sum : mg "sum" = none
  g_enumerate : mg "enumerate" = none
  g_sorted : mg "sorted" = none
  g_bool : mg "bool" = none
  g_reversed : mg "reversed" = none
section
variable {P : Program} {w : World} {K : PySem.W.Frag} {mg : Str → Option Value} {base : Heap} {c : CA}
abbrev nm_L_script : List Str := ["_law_script_here", "_law_stirred", "_law_at", "_law_cell"]
theorem sc_L_script : FnScope nm_L_script ["_law_script_here"] (defScope s_L_script) := ⟨rfl, rfl, rfl, by decide +kernel, rfl, by decide +kernel, by decide +kernel⟩
theorem ok_L_script (T : Top K mg c) : OkF P w K mg base (1) "_law_script" ["_law_script_here"] (sp_L_script K) := by
  refine DefAt.ok (k := 0) T.d_L_script sc_L_script (fun _ _ _ _ _ _ us hl => match us, hl with | [_], _ => rfl) len_L_script (fun f cdv A outer s H vs Q E hr h => ⟨t_L_script K, ?_, fun z => rd_L_script h⟩)
  have hu := hu_of hr
  exact (pss_cons (ps_set (i := 1) sc_L_script.nd rfl (Or.inl rfl) (pe_op op_mod (pe_callB (cr_sum (by rfl)) (by rfl) T.g_sum (by decide +kernel) (pa_cons (pe_lc (own := [("_law_at", 2), ("_law_cell", 3)]) rfl sc_L_script.nd (pi_enum (by rfl) T.g_enumerate (pa_cons (pv 0) pa_nil)) (blkOk_by (own := [("_law_at", 2), ("_law_cell", 3)]) (N := nm_L_script) (sc := defScope s_L_script) (by decide +kernel)) (fun _ _ _ _ _ => (pg_tup rfl (pgs_cons (pg_name (i := 2) sc_L_script.nd rfl (Or.inl rfl)) (pgs_cons (pg_name (i := 3) sc_L_script.nd rfl (Or.inl rfl)) pgs_nil)))) (fun _ _ _ _ _ => pts_nil) (fun _ _ _ _ _ => (pe_op op_mul (pe_op op_add (pv 2) pe_int) (pe_op op_mod (pv 3) pe_int)))) pa_nil)) pe_int))
    (pss_one (ps_ret (pe_lstX (pa_cons (pe_callTy cl_lstK (by rfl) T.g_list (by decide +kernel) (pa_cons (pv 0) pa_nil)) (pa_cons (pe_op op_mul (pv 1) (pe_callTy cl_int1 (by rfl) T.g_int (by decide +kernel) (pa_cons (pe_cmpR op_gt (pe_callB call_len_seq (by rfl) T.g_len (by decide +kernel) (pa_cons (pv 0) pa_nil)) pe_int (nomark _)) pa_nil))) pa_nil))))))

abbrev nm_L_take : List Str := ["_law_box", "_law_many", "_law_number"]
theorem sc_L_take : FnScope nm_L_take ["_law_box", "_law_many"] (defScope s_L_take) := ⟨rfl, rfl, rfl, by decide +kernel, rfl, by decide +kernel, by decide +kernel⟩
theorem ok_L_take (T : Top K mg c) : OkF P w K mg base (1) "_law_take" ["_law_box", "_law_many"] sp_L_take := by
  refine DefAt.ok (k := 0) T.d_L_take sc_L_take (fun _ _ _ _ _ _ us hl => match us, hl with | [_, _], _ => rfl) len_L_take (fun f cdv A outer s H vs Q E hr h => ⟨t_L_take K, ?_, fun z => rd_L_take h⟩)
  have hu := hu_of hr
  exact (pss_cons (ps_if (pt_cmpR (op_eqE hr.units) (pe_ix ix_l (pv 0) pe_int (fun _ _ => rfl)) (pe_lstX pa_nil) (nomark _)) (pss_cons (ps_asg (pe_op op_mod (pe_op op_mul (pe_ix ix_l (pv 0) pe_int (fun _ _ => rfl)) pe_int) pe_int) (pg_sub (pv 0) pe_int set_l))
    (pss_one (ps_ret (pe_op op_mod (pe_op op_fdiv (pe_ix ix_l (pv 0) pe_int (fun _ _ => rfl)) pe_int) (pv 1))))) pss_nil)
    (pss_cons (ps_set (i := 2) sc_L_take.nd rfl (Or.inl rfl) (pe_ix ix_l (pe_ix ix_l (pv 0) pe_int (fun _ _ => rfl)) pe_int (fun _ _ => rfl)))
    (pss_cons (ps_asg (pe_op op_fdiv (pv 2) (pv 1)) (pg_sub (pe_ix ix_l (pv 0) pe_int (fun _ _ => rfl)) pe_int set_l))
    (pss_cons (ps_if (pt_cmpR op_inT (pe_ix ix_l (pe_ix ix_l (pv 0) pe_int (fun _ _ => rfl)) pe_int (fun _ _ => rfl)) (pe_tupX (pa_cons pe_int (pa_cons (pe_un un_neg pe_int) pa_nil))) (by rfl)) (pss_one (ps_expr (pe_popAt (pe_ix ix_l (pv 0) pe_int (fun _ _ => rfl)) pe_int))) pss_nil)
    (pss_one (ps_ret (pe_op op_mod (pv 2) (pv 1))))))))

abbrev nm_L_name : List Str := ["_law_box", "_law_far"]
theorem sc_L_name : FnScope nm_L_name ["_law_box"] (defScope s_L_name) := ⟨rfl, rfl, rfl, by decide +kernel, rfl, by decide +kernel, by decide +kernel⟩
theorem ok_L_name (T : Top K mg c) : OkF P w K mg base (2) "_law_name" ["_law_box"] sp_L_name := by
  refine DefAt.ok (k := 1) T.d_L_name sc_L_name (fun _ _ _ _ _ _ us hl => match us, hl with | [_], _ => rfl) len_L_name (fun f cdv A outer s H vs Q E hr h => ⟨t_L_name K, ?_, fun z => rd_L_name h⟩)
  have hu := hu_of hr
  exact (pss_cons (ps_set (i := 1) sc_L_name.nd rfl (Or.inl rfl) (pe_op op_mul pe_int (pe_callTy cl_int1 (by rfl) T.g_int (by decide +kernel) (pa_cons (pe_cmpR op_eq (pe_callF (ok_L_take T) (hr.mono (by decide)) (by rfl) (pa_cons (pv 0) (pa_cons pe_int pa_nil))) pe_int (nomark _)) pa_nil))))
    (pss_one (ps_ret (pe_ix ix_str pe_str (pe_op op_add (pe_callF (ok_L_take T) (hr.mono (by decide)) (by rfl) (pa_cons (pv 0) (pa_cons pe_int pa_nil))) (pv 1)) (fun _ _ => rfl)))))

abbrev nm_L_text : List Str := ["_law_box", "_law_some", "_law_size", "_law_k"]
theorem sc_L_text : FnScope nm_L_text ["_law_box"] (defScope s_L_text) := ⟨rfl, rfl, rfl, by decide +kernel, rfl, by decide +kernel, by decide +kernel⟩
theorem ok_L_text (T : Top K mg c) : OkF P w K mg base (2) "_law_text" ["_law_box"] sp_L_text := by
  refine DefAt.ok (k := 1) T.d_L_text sc_L_text (fun _ _ _ _ _ _ us hl => match us, hl with | [_], _ => rfl) len_L_text (fun f cdv A outer s H vs Q E hr h => ⟨t_L_text K, ?_, fun z => rd_L_text h⟩)
  have hu := hu_of hr
  exact (pss_cons (ps_set (i := 1) sc_L_text.nd rfl (Or.inr rfl) (pe_ix ix_l (pe_lstX (pa_cons pe_str (pa_cons pe_str pa_nil))) (pe_callF (ok_L_take T) (hr.mono (by decide)) (by rfl) (pa_cons (pv 0) (pa_cons pe_int pa_nil))) (fun _ _ => rfl)))
    (pss_cons (ps_set (i := 2) sc_L_text.nd rfl (Or.inl rfl) (pe_ix ix_l (pe_lstX (pa_cons (pe_callF (ok_L_take T) (hr.mono (by decide)) (by rfl) (pa_cons (pv 0) (pa_cons pe_int pa_nil))) (pa_cons (pe_callF (ok_L_take T) (hr.mono (by decide)) (by rfl) (pa_cons (pv 0) (pa_cons pe_int pa_nil))) pa_nil))) (pe_callTy cl_int1 (by rfl) T.g_int (by decide +kernel) (pa_cons (pe_cmpR op_eq (pe_callF (ok_L_take T) (hr.mono (by decide)) (by rfl) (pa_cons (pv 0) (pa_cons pe_int pa_nil))) pe_int (nomark _)) pa_nil)) (fun _ _ => rfl)))
    (pss_one (ps_ret (pe_joinL pe_str (pe_lc (own := [("_law_k", 3)]) rfl sc_L_text.nd (pi_range1 (by rfl) T.g_range (pa_cons (pv 2) pa_nil)) (blkOk_by (own := [("_law_k", 3)]) (N := nm_L_text) (sc := defScope s_L_text) (by decide +kernel)) (fun _ _ _ _ _ => (pg_name (i := 3) sc_L_text.nd rfl (Or.inl rfl))) (fun _ _ _ _ _ => pts_nil) (fun _ _ _ _ _ => (pe_ix ix_str (pv 1) (pe_callF (ok_L_take T) (hr.mono (by decide)) (by rfl) (pa_cons (pv 0) (pa_cons (pe_callB cl_lenS (by rfl) T.g_len (by decide +kernel) (pa_cons (pv 1) pa_nil)) pa_nil))) (fun _ _ => rfl)))))))))

abbrev nm_L_part : List Str := ["_law_box", "_law_deep", "_law_kind", "_law_word", "_law_one"]
theorem sc_L_part : FnScope nm_L_part ["_law_box", "_law_deep"] (defScope s_L_part) := ⟨rfl, rfl, rfl, by decide +kernel, rfl, by decide +kernel, by decide +kernel⟩
theorem ok_L_part (T : Top K mg c) (n : Nat) (ih : OkF P w K mg base (n + 2) "_law_part" ["_law_box", "_law_deep"] (sp_L_part n)) : OkF P w K mg base (n + 1 + 2) "_law_part" ["_law_box", "_law_deep"] (sp_L_part (n + 1)) := by
  refine (DefAt.ok (k := n + 2) T.d_L_part sc_L_part (fun _ _ _ _ _ _ us hl => match us, hl with | [_, _], _ => rfl) len_L_part (fun f cdv A outer s H vs Q E hr h => ⟨t_L_part K n, ?_, fun z => rd_L_part h⟩)).mono (by omega)
  have hu := hu_of hr
  exact (pss_cons (ps_set (i := 2) sc_L_part.nd rfl (Or.inl rfl) (pe_callF (ok_L_take T) (hr.mono (by omega)) (by rfl) (pa_cons (pv 0) (pa_cons pe_int pa_nil))))
    (pss_cons (ps_if (pt_cmpR op_lt (pv 2) pe_int (nomark _)) (pss_one (ps_ret (pe_tupX (pa_cons pe_str (pa_cons (pe_callF (ok_L_name T) (hr.mono (by omega)) (by rfl) (pa_cons (pv 0) pa_nil)) pa_nil))))) pss_nil)
    (pss_cons (ps_if (PW.pt (pw_or (pt_cmpR op_eq (pv 1) pe_int (nomark _)) (pw_or1 (pt_cmpR op_lt (pv 2) pe_int (nomark _))))) (pss_cons (ps_if (pt_cmpR op_eq (pv 2) pe_int (nomark _)) (pss_one (ps_ret (pe_tupX (pa_cons pe_str (pa_cons (pe_callF (ok_L_text T) (hr.mono (by omega)) (by rfl) (pa_cons (pv 0) pa_nil)) pa_nil))))) pss_nil)
    (pss_one (ps_ret (pe_tupX (pa_cons pe_str (pa_cons (pe_ix ix_l (pe_lstX (pa_cons (pe_callF (ok_L_take T) (hr.mono (by omega)) (by rfl) (pa_cons (pv 0) (pa_cons pe_int pa_nil))) (pa_cons (pe_callF (ok_L_take T) (hr.mono (by omega)) (by rfl) (pa_cons (pv 0) (pa_cons pe_int pa_nil))) pa_nil))) (pe_callTy cl_int1 (by rfl) T.g_int (by decide +kernel) (pa_cons (pe_cmpR op_eq (pv 2) pe_int (nomark _)) pa_nil)) (fun _ _ => rfl)) pa_nil)))))) pss_nil)
    (pss_cons (ps_set (i := 3) sc_L_part.nd rfl (Or.inl rfl) (pe_ix ix_l (pe_lstX (pa_cons pe_str (pa_cons pe_str (pa_cons pe_str (pa_cons pe_str pa_nil))))) (pe_callF (ok_L_take T) (hr.mono (by omega)) (by rfl) (pa_cons (pv 0) (pa_cons pe_int pa_nil))) (fun _ _ => rfl)))
    (pss_cons (ps_set (i := 4) sc_L_part.nd rfl (Or.inl rfl) (pe_callF ih (hr.mono (by omega)) (by rfl) (pa_cons (pv 0) (pa_cons (pe_op op_sub (pv 1) pe_int) pa_nil))))
    (pss_one (ps_ret (pe_tupX (pa_cons (pv 3) (pa_cons (pv 4) (pa_cons (pe_callF ih (hr.mono (by omega)) (by rfl) (pa_cons (pv 0) (pa_cons (pe_op op_sub (pv 1) pe_int) pa_nil))) pa_nil)))))))))))
theorem okG_L_part (T : Top K mg c) : ∀ n : Nat, OkF P w K mg base (n + 2) "_law_part" ["_law_box", "_law_deep"] (sp_L_part n)
  | 0 => (DefAt.none T.d_L_part (fun _ _ _ _ _ _ us hl => match us, hl with | [_, _], _ => rfl) no_L_part).mono (Nat.zero_le _)
  | n + 1 => ok_L_part T n (okG_L_part T n)
theorem okR_L_part (T : Top K mg c) (n : Nat) : OkF P w K mg base (n + 2) "_law_part" ["_law_box", "_law_deep"] (sp_L_part n) := (okG_L_part T n)

abbrev nm_L_row : List Str := ["_law_box", "_law_deep", "_law_many", "_law_k"]
theorem sc_L_row : FnScope nm_L_row ["_law_box", "_law_deep", "_law_many"] (defScope s_L_row) := ⟨rfl, rfl, rfl, by decide +kernel, rfl, by decide +kernel, by decide +kernel⟩
theorem ok_L_row (T : Top K mg c) (n : Nat) (ih : OkF P w K mg base (n + 8) "_law_row" ["_law_box", "_law_deep", "_law_many"] (sp_L_row n) ∧ OkF P w K mg base (n + 8) "_law_statement" ["_law_box", "_law_deep"] (sp_L_statement n)) : OkF P w K mg base (n + 1 + 8) "_law_row" ["_law_box", "_law_deep", "_law_many"] (sp_L_row (n + 1)) := by
  refine (DefAt.ok (k := n + 8) T.d_L_row sc_L_row (fun _ _ _ _ _ _ us hl => match us, hl with | [_, _, _], _ => rfl) len_L_row (fun f cdv A outer s H vs Q E hr h => ⟨t_L_row K n, ?_, fun z => rd_L_row h⟩)).mono (by omega)
  have hu := hu_of hr
  exact (pss_cons (ps_if (PW.pt (pw_and (pt_cmpR op_lt (pv 1) pe_int (nomark _)) (pw_and1 (pt_cmpR op_eq (pe_callF (ok_L_take T) (hr.mono (by omega)) (by rfl) (pa_cons (pv 0) (pa_cons pe_int pa_nil))) pe_int (nomark _))))) (pss_one (ps_set (i := 2) sc_L_row.nd rfl (Or.inl rfl) (pe_callF (ok_L_take T) (hr.mono (by omega)) (by rfl) (pa_cons (pv 0) (pa_cons pe_int pa_nil))))) pss_nil)
    (pss_one (ps_ret (pe_tupX (pa_cons pe_str (pa_cons (pe_callTy cl_tupL (by rfl) T.g_tuple (by decide +kernel) (pa_cons (pe_lc (own := [("_law_k", 3)]) rfl sc_L_row.nd (pi_range1 (by rfl) T.g_range (pa_cons (pv 2) pa_nil)) (blkOk_by (own := [("_law_k", 3)]) (N := nm_L_row) (sc := defScope s_L_row) (by decide +kernel)) (fun _ _ _ _ _ => (pg_name (i := 3) sc_L_row.nd rfl (Or.inl rfl))) (fun _ _ _ _ _ => pts_nil) (fun _ _ _ _ _ => (pe_callF ih.2 (hr.mono (by omega)) (by rfl) (pa_cons (pv 0) (pa_cons (pv 1) pa_nil))))) pa_nil)) pa_nil))))))

abbrev nm_L_statement : List Str := ["_law_box", "_law_deep", "_law_kind", "_law_far", "_law_part_here", "_law_inner"]
theorem sc_L_statement : FnScope nm_L_statement ["_law_box", "_law_deep"] (defScope s_L_statement) := ⟨rfl, rfl, rfl, by decide +kernel, rfl, by decide +kernel, by decide +kernel⟩
theorem ok_L_statement (T : Top K mg c) (n : Nat) (ih : OkF P w K mg base (n + 8) "_law_row" ["_law_box", "_law_deep", "_law_many"] (sp_L_row n) ∧ OkF P w K mg base (n + 8) "_law_statement" ["_law_box", "_law_deep"] (sp_L_statement n)) : OkF P w K mg base (n + 1 + 8) "_law_statement" ["_law_box", "_law_deep"] (sp_L_statement (n + 1)) := by
  refine (DefAt.ok (k := n + 8) T.d_L_statement sc_L_statement (fun _ _ _ _ _ _ us hl => match us, hl with | [_, _], _ => rfl) len_L_statement (fun f cdv A outer s H vs Q E hr h => ⟨t_L_statement K n, ?_, fun z => rd_L_statement h⟩)).mono (by omega)
  have hu := hu_of hr
  exact (pss_cons (ps_set (i := 2) sc_L_statement.nd rfl (Or.inl rfl) (pe_callF (ok_L_take T) (hr.mono (by omega)) (by rfl) (pa_cons (pv 0) (pa_cons pe_int pa_nil))))
    (pss_cons (ps_set (i := 3) sc_L_statement.nd rfl (Or.inl rfl) (pe_ix ix_l (pe_lstX (pa_cons pe_int (pa_cons pe_int pa_nil))) (pe_callTy cl_int1 (by rfl) T.g_int (by decide +kernel) (pa_cons (pe_cmpR op_eq (pe_callF (ok_L_take T) (hr.mono (by omega)) (by rfl) (pa_cons (pv 0) (pa_cons pe_int pa_nil))) pe_int (nomark _)) pa_nil)) (fun _ _ => rfl)))
    (pss_cons (ps_if (PW.pt (pw_or (pt_cmpR op_eq (pv 1) pe_int (nomark _)) (pw_or1 (pt_cmpR op_lt (pv 2) pe_int (nomark _))))) (pss_cons (ps_if (pt_cmpR op_inT (pv 2) (pe_tupX (pa_cons pe_int (pa_cons pe_int (pa_cons pe_int pa_nil)))) (by rfl)) (pss_one (ps_ret (pe_tupX (pa_cons pe_str (pa_cons (pe_callF (okR_L_part T 6) (hr.mono (by omega)) (by rfl) (pa_cons (pv 0) (pa_cons (pv 3) pa_nil))) pa_nil))))) pss_nil)
    (pss_one (ps_ret (pe_tupX (pa_cons pe_str (pa_cons (pe_callF (ok_L_name T) (hr.mono (by omega)) (by rfl) (pa_cons (pv 0) pa_nil)) (pa_cons (pe_callF (okR_L_part T 6) (hr.mono (by omega)) (by rfl) (pa_cons (pv 0) (pa_cons (pv 3) pa_nil))) pa_nil))))))) pss_nil)
    (pss_cons (ps_set (i := 4) sc_L_statement.nd rfl (Or.inl rfl) (pe_callF (okR_L_part T 6) (hr.mono (by omega)) (by rfl) (pa_cons (pv 0) (pa_cons pe_int pa_nil))))
    (pss_cons (ps_set (i := 5) sc_L_statement.nd rfl (Or.inl rfl) (pe_callF ih.1 (hr.mono (by omega)) (by rfl) (pa_cons (pv 0) (pa_cons (pe_op op_sub (pv 1) pe_int) (pa_cons (pe_callF (ok_L_take T) (hr.mono (by omega)) (by rfl) (pa_cons (pv 0) (pa_cons pe_int pa_nil))) pa_nil)))))
    (pss_cons (ps_if (pt_cmpR op_lt (pv 2) pe_int (nomark _)) (pss_one (ps_ret (pe_tupX (pa_cons pe_str (pa_cons (pv 4) (pa_cons (pv 5) (pa_cons (pe_callF ih.1 (hr.mono (by omega)) (by rfl) (pa_cons (pv 0) (pa_cons (pe_op op_sub (pv 1) pe_int) (pa_cons (pe_callF (ok_L_take T) (hr.mono (by omega)) (by rfl) (pa_cons (pv 0) (pa_cons pe_int pa_nil))) pa_nil)))) pa_nil))))))) pss_nil)
    (pss_one (ps_ret (pe_tupX (pa_cons pe_str (pa_cons (pv 4) (pa_cons (pv 5) pa_nil))))))))))))
theorem okG_L_row (T : Top K mg c) : ∀ n : Nat, OkF P w K mg base (n + 8) "_law_row" ["_law_box", "_law_deep", "_law_many"] (sp_L_row n) ∧ OkF P w K mg base (n + 8) "_law_statement" ["_law_box", "_law_deep"] (sp_L_statement n)
  | 0 => ⟨(DefAt.none T.d_L_row (fun _ _ _ _ _ _ us hl => match us, hl with | [_, _, _], _ => rfl) no_L_row).mono (Nat.zero_le _), (DefAt.none T.d_L_statement (fun _ _ _ _ _ _ us hl => match us, hl with | [_, _], _ => rfl) no_L_statement).mono (Nat.zero_le _)⟩
  | n + 1 => ⟨ok_L_row T n (okG_L_row T n), ok_L_statement T n (okG_L_row T n)⟩
theorem okR_L_row (T : Top K mg c) (n : Nat) : OkF P w K mg base (n + 8) "_law_row" ["_law_box", "_law_deep", "_law_many"] (sp_L_row n) := (okG_L_row T n).1
theorem okR_L_statement (T : Top K mg c) (n : Nat) : OkF P w K mg base (n + 8) "_law_statement" ["_law_box", "_law_deep"] (sp_L_statement n) := (okG_L_row T n).2

abbrev nm_L_counted : List Str := ["_law_row_here", "_law_turns", "_law_step", "_law_loop"]
theorem sc_L_counted : FnScope nm_L_counted ["_law_row_here", "_law_turns"] (defScope s_L_counted) := ⟨rfl, rfl, rfl, by decide +kernel, rfl, by decide +kernel, by decide +kernel⟩
theorem ok_L_counted (T : Top K mg c) : OkF P w K mg base (1) "_law_counted" ["_law_row_here", "_law_turns"] sp_L_counted := by
  refine DefAt.ok (k := 0) T.d_L_counted sc_L_counted (fun _ _ _ _ _ _ us hl => match us, hl with | [_, _], _ => rfl) len_L_counted (fun f cdv A outer s H vs Q E hr h => ⟨t_L_counted K, ?_, fun z => rd_L_counted h⟩)
  have hu := hu_of hr
  exact (pss_cons (ps_set (i := 2) sc_L_counted.nd rfl (Or.inl rfl) (pe_tupX (pa_cons pe_str (pa_cons pe_str (pa_cons (pe_tupX (pa_cons pe_str (pa_cons (pe_tupX (pa_cons pe_str (pa_cons pe_str pa_nil))) (pa_cons (pe_tupX (pa_cons pe_str (pa_cons pe_int pa_nil))) pa_nil)))) pa_nil)))))
    (pss_cons (ps_set (i := 3) sc_L_counted.nd rfl (Or.inl rfl) (pe_tupX (pa_cons pe_str (pa_cons (pe_tupX (pa_cons pe_str (pa_cons pe_str pa_nil))) (pa_cons (pe_tupX (pa_cons pe_str (pa_cons (pe_op op_catX (pe_ix ix_t (pv 0) pe_int (fun _ _ => rfl)) (pe_tupX (pa_cons (pv 2) pa_nil))) pa_nil))) pa_nil)))))
    (pss_one (ps_ret (pe_tupX (pa_cons pe_str (pa_cons (pe_tupX (pa_cons (pe_tupX (pa_cons pe_str (pa_cons pe_str (pa_cons (pe_tupX (pa_cons pe_str (pa_cons (pv 1) pa_nil))) pa_nil)))) (pa_cons (pv 3) pa_nil))) pa_nil)))))))

abbrev nm_L_program : List Str := ["_law_box", "_law_deep", "_law_many", "_law_row_here"]
theorem sc_L_program : FnScope nm_L_program ["_law_box", "_law_deep"] (defScope s_L_program) := ⟨rfl, rfl, rfl, by decide +kernel, rfl, by decide +kernel, by decide +kernel⟩
theorem ok_L_program (T : Top K mg c) : OkF P w K mg base (17) "_law_program" ["_law_box", "_law_deep"] sp_L_program := by
  refine DefAt.ok (k := 16) T.d_L_program sc_L_program (fun _ _ _ _ _ _ us hl => match us, hl with | [_, _], _ => rfl) len_L_program (fun f cdv A outer s H vs Q E hr h => ⟨t_L_program K, ?_, fun z => rd_L_program h⟩)
  have hu := hu_of hr
  exact (pss_cons (ps_set (i := 2) sc_L_program.nd rfl (Or.inl rfl) (pe_op op_add pe_int (pe_callF (ok_L_take T) (hr.mono (by decide)) (by rfl) (pa_cons (pv 0) (pa_cons pe_int pa_nil)))))
    (pss_cons (ps_if (pt_cmpR op_eq (pe_callF (ok_L_take T) (hr.mono (by decide)) (by rfl) (pa_cons (pv 0) (pa_cons pe_int pa_nil))) pe_int (nomark _)) (pss_one (ps_set (i := 2) sc_L_program.nd rfl (Or.inl rfl) (pe_op op_add pe_int (pe_callF (ok_L_take T) (hr.mono (by decide)) (by rfl) (pa_cons (pv 0) (pa_cons pe_int pa_nil)))))) pss_nil)
    (pss_cons (ps_set (i := 3) sc_L_program.nd rfl (Or.inl rfl) (pe_callF (okR_L_row T 8) (hr.mono (by decide)) (by rfl) (pa_cons (pv 0) (pa_cons (pv 1) (pa_cons (pv 2) pa_nil)))))
    (pss_cons (ps_if (pt_cmpR op_eq (pe_callF (ok_L_take T) (hr.mono (by decide)) (by rfl) (pa_cons (pv 0) (pa_cons pe_int pa_nil))) pe_int (nomark _)) (pss_one (ps_set (i := 3) sc_L_program.nd rfl (Or.inl rfl) (pe_callF (ok_L_counted T) (hr.mono (by decide)) (by rfl) (pa_cons (pv 3) (pa_cons (pe_op op_add pe_int (pe_callF (ok_L_take T) (hr.mono (by decide)) (by rfl) (pa_cons (pv 0) (pa_cons pe_int pa_nil)))) pa_nil))))) pss_nil)
    (pss_one (ps_ret (pv 3)))))))

abbrev nm_L_part_code : List Str := ["_law_part_here"]
theorem sc_L_part_code : FnScope nm_L_part_code ["_law_part_here"] (defScope s_L_part_code) := ⟨rfl, rfl, rfl, by decide +kernel, rfl, by decide +kernel, by decide +kernel⟩
theorem ok_L_part_code (T : Top K mg c) (n : Nat) (ih : OkF P w K mg base (n + 0) "_law_part_code" ["_law_part_here"] (sp_L_part_code n)) : OkF P w K mg base (n + 1 + 0) "_law_part_code" ["_law_part_here"] (sp_L_part_code (n + 1)) := by
  refine (DefAt.ok (k := n + 0) T.d_L_part_code sc_L_part_code (fun _ _ _ _ _ _ us hl => match us, hl with | [_], _ => rfl) len_L_part_code (fun f cdv A outer s H vs Q E hr h => ⟨t_L_part_code K n, ?_, fun z => rd_L_part_code h⟩)).mono (by omega)
  have hu := hu_of hr
  exact (pss_cons (ps_if (pt_cmpR op_inT (pe_ix ix_t (pv 0) pe_int (fun _ _ => rfl)) (pe_tupX (pa_cons pe_str (pa_cons pe_str (pa_cons pe_str pa_nil)))) (by rfl)) (pss_one (ps_ret (pe_lstX (pa_cons (pv 0) pa_nil)))) pss_nil)
    (pss_one (ps_ret (pe_op op_ct (pe_op op_ct (pe_callF ih (hr.mono (by omega)) (by rfl) (pa_cons (pe_ix ix_t (pv 0) pe_int (fun _ _ => rfl)) pa_nil)) (pe_callF ih (hr.mono (by omega)) (by rfl) (pa_cons (pe_ix ix_t (pv 0) pe_int (fun _ _ => rfl)) pa_nil))) (pe_lstX (pa_cons (pe_tupX (pa_cons (pe_ix ix_t (pv 0) pe_int (fun _ _ => rfl)) pa_nil)) pa_nil))))))
theorem okG_L_part_code (T : Top K mg c) : ∀ n : Nat, OkF P w K mg base (n + 0) "_law_part_code" ["_law_part_here"] (sp_L_part_code n)
  | 0 => (DefAt.none T.d_L_part_code (fun _ _ _ _ _ _ us hl => match us, hl with | [_], _ => rfl) no_L_part_code).mono (Nat.zero_le _)
  | n + 1 => ok_L_part_code T n (okG_L_part_code T n)
theorem okR_L_part_code (T : Top K mg c) (n : Nat) : OkF P w K mg base (n + 0) "_law_part_code" ["_law_part_here"] (sp_L_part_code n) := (okG_L_part_code T n)

abbrev nm_L_code : List Str := ["_law_one", "_law_base", "_law_word", "_law_rows", "_law_part_here", "_law_head", "_law_inner", "_law_leave", "_law_yes", "_law_here", "_law_no"]
theorem sc_L_code : FnScope nm_L_code ["_law_one", "_law_base"] (defScope s_L_code) := ⟨rfl, rfl, rfl, by decide +kernel, rfl, by decide +kernel, by decide +kernel⟩
theorem ok_L_code (T : Top K mg c) (n : Nat) (ih : OkF P w K mg base (n + 7) "_law_code" ["_law_one", "_law_base"] (sp_L_code n)) : OkF P w K mg base (n + 1 + 7) "_law_code" ["_law_one", "_law_base"] (sp_L_code (n + 1)) := by
  refine (DefAt.ok (k := n + 7) T.d_L_code sc_L_code (fun _ _ _ _ _ _ us hl => match us, hl with | [_, _], _ => rfl) len_L_code (fun f cdv A outer s H vs Q E hr h => ⟨t_L_code K n, ?_, fun z => rd_L_code h⟩)).mono (by omega)
  have hu := hu_of hr
  exact (pss_cons (ps_set (i := 2) sc_L_code.nd rfl (Or.inl rfl) (pe_ix ix_t (pv 0) pe_int (fun _ _ => rfl)))
    (pss_cons (ps_if (pt_cmpR op_eq (pv 2) pe_str (nomark _)) (pss_cons (ps_set (i := 3) sc_L_code.nd rfl (Or.inl rfl) (pe_lstX pa_nil))
    (pss_cons (ps_for PassesOwn.never rfl (pi_tup (pe_ix ix_t (pv 0) pe_int (fun _ _ => rfl))) (pg_name (i := 4) sc_L_code.nd rfl (Or.inl rfl))
    (pss_one (ps_set (i := 3) sc_L_code.nd rfl (Or.inl rfl) (pe_op op_ct (pv 3) (pe_callF ih (hr.mono (by omega)) (by rfl) (pa_cons (pv 4) (pa_cons (pe_op op_add (pv 1) (pe_callB cl_lenL (by rfl) T.g_len (by decide +kernel) (pa_cons (pv 3) pa_nil))) pa_nil)))))))
    (pss_one (ps_ret (pv 3))))) pss_nil)
    (pss_cons (ps_if (pt_cmpR op_eq (pv 2) pe_str (nomark _)) (pss_one (ps_ret (pe_op op_ct (pe_callF (okR_L_part_code T 7) (hr.mono (by omega)) (by rfl) (pa_cons (pe_ix ix_t (pv 0) pe_int (fun _ _ => rfl)) pa_nil)) (pe_lstX (pa_cons (pe_tupX (pa_cons pe_str pa_nil)) pa_nil))))) pss_nil)
    (pss_cons (ps_if (pt_cmpR op_eq (pv 2) pe_str (nomark _)) (pss_one (ps_ret (pe_op op_ct (pe_callF (okR_L_part_code T 7) (hr.mono (by omega)) (by rfl) (pa_cons (pe_ix ix_t (pv 0) pe_int (fun _ _ => rfl)) pa_nil)) (pe_lstX (pa_cons (pe_tupX (pa_cons pe_str (pa_cons (pe_ix ix_t (pv 0) pe_int (fun _ _ => rfl)) pa_nil))) pa_nil))))) pss_nil)
    (pss_cons (ps_set (i := 5) sc_L_code.nd rfl (Or.inl rfl) (pe_callF (okR_L_part_code T 7) (hr.mono (by omega)) (by rfl) (pa_cons (pe_ix ix_t (pv 0) pe_int (fun _ _ => rfl)) pa_nil)))
    (pss_cons (ps_if (pt_cmpR op_eq (pv 2) pe_str (nomark _)) (pss_cons (ps_set (i := 6) sc_L_code.nd rfl (Or.inl rfl) (pe_callF ih (hr.mono (by omega)) (by rfl) (pa_cons (pe_ix ix_t (pv 0) pe_int (fun _ _ => rfl)) (pa_cons (pe_op op_add (pe_op op_add (pv 1) (pe_callB cl_lenL (by rfl) T.g_len (by decide +kernel) (pa_cons (pv 5) pa_nil))) pe_int) pa_nil))))
    (pss_cons (ps_set (i := 7) sc_L_code.nd rfl (Or.inl rfl) (pe_op op_add (pe_op op_add (pe_op op_add (pv 1) (pe_callB cl_lenL (by rfl) T.g_len (by decide +kernel) (pa_cons (pv 5) pa_nil))) (pe_callB cl_lenL (by rfl) T.g_len (by decide +kernel) (pa_cons (pv 6) pa_nil))) pe_int))
    (pss_one (ps_ret (pe_op op_ct (pe_op op_ct (pe_op op_ct (pe_op op_ct (pe_lstX (pa_cons (pe_tupX (pa_cons pe_str pa_nil)) pa_nil)) (pv 5)) (pe_lstX (pa_cons (pe_tupX (pa_cons pe_str (pa_cons (pv 7) pa_nil))) pa_nil))) (pv 6)) (pe_lstX (pa_cons (pe_tupX (pa_cons pe_str (pa_cons (pv 1) pa_nil))) pa_nil))))))) pss_nil)
    (pss_cons (ps_set (i := 8) sc_L_code.nd rfl (Or.inl rfl) (pe_callF ih (hr.mono (by omega)) (by rfl) (pa_cons (pe_ix ix_t (pv 0) pe_int (fun _ _ => rfl)) (pa_cons (pe_op op_add (pe_op op_add (pv 1) (pe_callB cl_lenL (by rfl) T.g_len (by decide +kernel) (pa_cons (pv 5) pa_nil))) pe_int) pa_nil))))
    (pss_cons (ps_set (i := 9) sc_L_code.nd rfl (Or.inl rfl) (pe_op op_add (pe_op op_add (pe_op op_add (pv 1) (pe_callB cl_lenL (by rfl) T.g_len (by decide +kernel) (pa_cons (pv 5) pa_nil))) (pe_callB cl_lenL (by rfl) T.g_len (by decide +kernel) (pa_cons (pv 8) pa_nil))) pe_int))
    (pss_cons (ps_set (i := 10) sc_L_code.nd rfl (Or.inl rfl) (pe_callF ih (hr.mono (by omega)) (by rfl) (pa_cons (pe_ix ix_t (pv 0) pe_int (fun _ _ => rfl)) (pa_cons (pv 9) pa_nil))))
    (pss_one (ps_ret (pe_op op_ct (pe_op op_ct (pe_op op_ct (pe_op op_ct (pv 5) (pe_lstX (pa_cons (pe_tupX (pa_cons pe_str (pa_cons (pv 9) pa_nil))) pa_nil))) (pv 8)) (pe_lstX (pa_cons (pe_tupX (pa_cons pe_str (pa_cons (pe_op op_add (pv 9) (pe_callB cl_lenL (by rfl) T.g_len (by decide +kernel) (pa_cons (pv 10) pa_nil))) pa_nil))) pa_nil))) (pv 10)))))))))))))
theorem okG_L_code (T : Top K mg c) : ∀ n : Nat, OkF P w K mg base (n + 7) "_law_code" ["_law_one", "_law_base"] (sp_L_code n)
  | 0 => (DefAt.none T.d_L_code (fun _ _ _ _ _ _ us hl => match us, hl with | [_, _], _ => rfl) no_L_code).mono (Nat.zero_le _)
  | n + 1 => ok_L_code T n (okG_L_code T n)
theorem okR_L_code (T : Top K mg c) (n : Nat) : OkF P w K mg base (n + 7) "_law_code" ["_law_one", "_law_base"] (sp_L_code n) := (okG_L_code T n)

abbrev nm_L_coded : List Str := ["_law_program_here"]
theorem sc_L_coded : FnScope nm_L_coded ["_law_program_here"] (defScope s_L_coded) := ⟨rfl, rfl, rfl, by decide +kernel, rfl, by decide +kernel, by decide +kernel⟩
theorem ok_L_coded (T : Top K mg c) : OkF P w K mg base (28) "_law_coded" ["_law_program_here"] sp_L_coded := by
  refine DefAt.ok (k := 27) T.d_L_coded sc_L_coded (fun _ _ _ _ _ _ us hl => match us, hl with | [_], _ => rfl) len_L_coded (fun f cdv A outer s H vs Q E hr h => ⟨t_L_coded K, ?_, fun z => rd_L_coded h⟩)
  have hu := hu_of hr
  exact (pss_one (ps_ret (pe_callTy cl_tupL (by rfl) T.g_tuple (by decide +kernel) (pa_cons (pe_op op_ct (pe_callF (okR_L_code T 20) (hr.mono (by decide)) (by rfl) (pa_cons (pv 0) (pa_cons pe_int pa_nil))) (pe_lstX (pa_cons (pe_tupX (pa_cons pe_str pa_nil)) pa_nil))) pa_nil))))

abbrev nm_Coder___init__ : List Str := ["self"]
theorem sc_Coder___init__ : FnScope nm_Coder___init__ ["self"] (defScope s_Coder___init__) := ⟨rfl, rfl, rfl, by decide +kernel, rfl, by decide +kernel, by decide +kernel⟩
theorem ok_Coder___init__ (T : Top K mg c) : OkI P w K mg base (1) c.coder ["self"] (sp_Coder___init__ c) := by
  refine InitAt.ok (k := 0) T.d_Coder___init__ sc_Coder___init__ (fun _ _ _ _ _ _ us hl => match us, hl with | [_], _ => rfl) len_Coder___init__ (fun f cdv A outer s H vs Q E hr h => ⟨t_Coder___init__ K c, ?_, fun z => rd_Coder___init__ h⟩)
  have hu := hu_of hr
  exact (pss_one (ps_fldC T.cl_Coder T.na_Coder_made (pv 0) (pe_lstX pa_nil)))

abbrev nm_Coder_put : List Str := ["self", "row"]
theorem sc_Coder_put : FnScope nm_Coder_put ["self", "row"] (defScope s_Coder_put) := ⟨rfl, rfl, rfl, by decide +kernel, rfl, by decide +kernel, by decide +kernel⟩
theorem ok_Coder_put (T : Top K mg c) : OkM P w K mg base (1) c.coder "put" ["self", "row"] (sp_Coder_put c) := by
  refine MethAt.ok (k := 0) T.d_Coder_put sc_Coder_put (fun _ _ _ _ _ _ us hl => match us, hl with | [_, _], _ => rfl) len_Coder_put (fun f cdv A outer s H vs Q E hr h => ⟨t_Coder_put K c, ?_, fun z => rd_Coder_put h⟩)
  have hu := hu_of hr
  exact (pss_cons (ps_expr (pe_app (pe_fldC T.cl_Coder T.na_Coder_made (pv 0)) (pv 1)))
    (pss_one (ps_ret (pe_op op_sub (pe_callB cl_lenL (by rfl) T.g_len (by decide +kernel) (pa_cons (pe_fldC T.cl_Coder T.na_Coder_made (pv 0)) pa_nil)) pe_int))))

abbrev nm_Coder_part : List Str := ["self", "part"]
theorem sc_Coder_part : FnScope nm_Coder_part ["self", "part"] (defScope s_Coder_part) := ⟨rfl, rfl, rfl, by decide +kernel, rfl, by decide +kernel, by decide +kernel⟩
theorem ok_Coder_part (T : Top K mg c) (n : Nat) (ih : OkM P w K mg base (n + 1) c.coder "part" ["self", "part"] (sp_Coder_part c n)) : OkM P w K mg base (n + 1 + 1) c.coder "part" ["self", "part"] (sp_Coder_part c (n + 1)) := by
  refine (MethAt.ok (k := n + 1) T.d_Coder_part sc_Coder_part (fun _ _ _ _ _ _ us hl => match us, hl with | [_, _], _ => rfl) len_Coder_part (fun f cdv A outer s H vs Q E hr h => ⟨t_Coder_part K c n, ?_, fun z => rd_Coder_part h⟩)).mono (by omega)
  have hu := hu_of hr
  exact (pss_one (ps_if (pt_cmpR op_inT (pe_ix ix_t (pv 1) pe_int (fun _ _ => rfl)) (pe_tupX (pa_cons pe_str (pa_cons pe_str (pa_cons pe_str pa_nil)))) (by rfl)) (pss_one (ps_expr (pe_methC (ok_Coder_put T) (hr.mono (by omega)) T.cl_Coder (pv 0) (pa_cons (pv 1) pa_nil)))) (pss_cons (ps_expr (pe_methC ih (hr.mono (by omega)) T.cl_Coder (pv 0) (pa_cons (pe_ix ix_t (pv 1) pe_int (fun _ _ => rfl)) pa_nil)))
    (pss_cons (ps_expr (pe_methC ih (hr.mono (by omega)) T.cl_Coder (pv 0) (pa_cons (pe_ix ix_t (pv 1) pe_int (fun _ _ => rfl)) pa_nil)))
    (pss_one (ps_expr (pe_methC (ok_Coder_put T) (hr.mono (by omega)) T.cl_Coder (pv 0) (pa_cons (pe_tupX (pa_cons (pe_ix ix_t (pv 1) pe_int (fun _ _ => rfl)) pa_nil)) pa_nil))))))))
theorem okG_Coder_part (T : Top K mg c) : ∀ n : Nat, OkM P w K mg base (n + 1) c.coder "part" ["self", "part"] (sp_Coder_part c n)
  | 0 => (MethAt.none T.d_Coder_part (fun _ _ _ _ _ _ us hl => match us, hl with | [_, _], _ => rfl) no_Coder_part).mono (Nat.zero_le _)
  | n + 1 => ok_Coder_part T n (okG_Coder_part T n)
theorem okR_Coder_part (T : Top K mg c) (n : Nat) : OkM P w K mg base (n + 1) c.coder "part" ["self", "part"] (sp_Coder_part c n) := (okG_Coder_part T n)

abbrev nm_Coder_lay : List Str := ["self", "one", "word", "part"]
theorem sc_Coder_lay : FnScope nm_Coder_lay ["self", "one"] (defScope s_Coder_lay) := ⟨rfl, rfl, rfl, by decide +kernel, rfl, by decide +kernel, by decide +kernel⟩
theorem ok_Coder_lay (T : Top K mg c) (n : Nat) (ih : OkM P w K mg base (n + 8) c.coder "lay" ["self", "one"] (sp_Coder_lay c n) ∧ OkM P w K mg base (n + 8) c.coder "choice" ["self", "one"] (sp_Coder_choice c n) ∧ OkM P w K mg base (n + 8) c.coder "loop" ["self", "one"] (sp_Coder_loop c n)) : OkM P w K mg base (n + 1 + 8) c.coder "lay" ["self", "one"] (sp_Coder_lay c (n + 1)) := by
  refine (MethAt.ok (k := n + 8) T.d_Coder_lay sc_Coder_lay (fun _ _ _ _ _ _ us hl => match us, hl with | [_, _], _ => rfl) len_Coder_lay (fun f cdv A outer s H vs Q E hr h => ⟨t_Coder_lay K c n, ?_, fun z => rd_Coder_lay h⟩)).mono (by omega)
  have hu := hu_of hr
  exact (pss_cons (ps_set (i := 2) sc_Coder_lay.nd rfl (Or.inl rfl) (pe_ix ix_t (pv 1) pe_int (fun _ _ => rfl)))
    (pss_one (ps_if (pt_cmpR op_eq (pv 2) pe_str (nomark _)) (pss_one (ps_for PassesOwn.never rfl (pi_tup (pe_ix ix_t (pv 1) pe_int (fun _ _ => rfl))) (pg_name (i := 3) sc_Coder_lay.nd rfl (Or.inl rfl))
    (pss_one (ps_expr (pe_methC ih.1 (hr.mono (by omega)) T.cl_Coder (pv 0) (pa_cons (pv 3) pa_nil)))))) (pss_one (ps_if (pt_cmpR op_eq (pv 2) pe_str (nomark _)) (pss_cons (ps_expr (pe_methC (okR_Coder_part T 7) (hr.mono (by omega)) T.cl_Coder (pv 0) (pa_cons (pe_ix ix_t (pv 1) pe_int (fun _ _ => rfl)) pa_nil)))
    (pss_one (ps_expr (pe_methC (ok_Coder_put T) (hr.mono (by omega)) T.cl_Coder (pv 0) (pa_cons (pe_tupX (pa_cons pe_str pa_nil)) pa_nil))))) (pss_one (ps_if (pt_cmpR op_eq (pv 2) pe_str (nomark _)) (pss_cons (ps_expr (pe_methC (okR_Coder_part T 7) (hr.mono (by omega)) T.cl_Coder (pv 0) (pa_cons (pe_ix ix_t (pv 1) pe_int (fun _ _ => rfl)) pa_nil)))
    (pss_one (ps_expr (pe_methC (ok_Coder_put T) (hr.mono (by omega)) T.cl_Coder (pv 0) (pa_cons (pe_tupX (pa_cons pe_str (pa_cons (pe_ix ix_t (pv 1) pe_int (fun _ _ => rfl)) pa_nil))) pa_nil))))) (pss_one (ps_if (pt_cmpR op_eq (pv 2) pe_str (nomark _)) (pss_one (ps_expr (pe_methC ih.2.1 (hr.mono (by omega)) T.cl_Coder (pv 0) (pa_cons (pv 1) pa_nil)))) (pss_one (ps_expr (pe_methC ih.2.2 (hr.mono (by omega)) T.cl_Coder (pv 0) (pa_cons (pv 1) pa_nil)))))))))))))

abbrev nm_Coder_choice : List Str := ["self", "one", "here", "leave"]
theorem sc_Coder_choice : FnScope nm_Coder_choice ["self", "one"] (defScope s_Coder_choice) := ⟨rfl, rfl, rfl, by decide +kernel, rfl, by decide +kernel, by decide +kernel⟩
theorem ok_Coder_choice (T : Top K mg c) (n : Nat) (ih : OkM P w K mg base (n + 8) c.coder "lay" ["self", "one"] (sp_Coder_lay c n) ∧ OkM P w K mg base (n + 8) c.coder "choice" ["self", "one"] (sp_Coder_choice c n) ∧ OkM P w K mg base (n + 8) c.coder "loop" ["self", "one"] (sp_Coder_loop c n)) : OkM P w K mg base (n + 1 + 8) c.coder "choice" ["self", "one"] (sp_Coder_choice c (n + 1)) := by
  refine (MethAt.ok (k := n + 8) T.d_Coder_choice sc_Coder_choice (fun _ _ _ _ _ _ us hl => match us, hl with | [_, _], _ => rfl) len_Coder_choice (fun f cdv A outer s H vs Q E hr h => ⟨t_Coder_choice K c n, ?_, fun z => rd_Coder_choice h⟩)).mono (by omega)
  have hu := hu_of hr
  exact (pss_cons (ps_expr (pe_methC (okR_Coder_part T 7) (hr.mono (by omega)) T.cl_Coder (pv 0) (pa_cons (pe_ix ix_t (pv 1) pe_int (fun _ _ => rfl)) pa_nil)))
    (pss_cons (ps_set (i := 2) sc_Coder_choice.nd rfl (Or.inl rfl) (pe_methC (ok_Coder_put T) (hr.mono (by omega)) T.cl_Coder (pv 0) (pa_cons (pe_tupX (pa_cons pe_str (pa_cons pe_int pa_nil))) pa_nil)))
    (pss_cons (ps_expr (pe_methC ih.1 (hr.mono (by omega)) T.cl_Coder (pv 0) (pa_cons (pe_ix ix_t (pv 1) pe_int (fun _ _ => rfl)) pa_nil)))
    (pss_cons (ps_set (i := 3) sc_Coder_choice.nd rfl (Or.inl rfl) (pe_methC (ok_Coder_put T) (hr.mono (by omega)) T.cl_Coder (pv 0) (pa_cons (pe_tupX (pa_cons pe_str (pa_cons pe_int pa_nil))) pa_nil)))
    (pss_cons (ps_asg (pe_tupX (pa_cons pe_str (pa_cons (pe_callB cl_lenL (by rfl) T.g_len (by decide +kernel) (pa_cons (pe_fldC T.cl_Coder T.na_Coder_made (pv 0)) pa_nil)) pa_nil))) (pg_sub (pe_fldC T.cl_Coder T.na_Coder_made (pv 0)) (pv 2) set_l))
    (pss_cons (ps_expr (pe_methC ih.1 (hr.mono (by omega)) T.cl_Coder (pv 0) (pa_cons (pe_ix ix_t (pv 1) pe_int (fun _ _ => rfl)) pa_nil)))
    (pss_one (ps_asg (pe_tupX (pa_cons pe_str (pa_cons (pe_callB cl_lenL (by rfl) T.g_len (by decide +kernel) (pa_cons (pe_fldC T.cl_Coder T.na_Coder_made (pv 0)) pa_nil)) pa_nil))) (pg_sub (pe_fldC T.cl_Coder T.na_Coder_made (pv 0)) (pv 3) set_l)))))))))

abbrev nm_Coder_loop : List Str := ["self", "one", "top", "here"]
theorem sc_Coder_loop : FnScope nm_Coder_loop ["self", "one"] (defScope s_Coder_loop) := ⟨rfl, rfl, rfl, by decide +kernel, rfl, by decide +kernel, by decide +kernel⟩
theorem ok_Coder_loop (T : Top K mg c) (n : Nat) (ih : OkM P w K mg base (n + 8) c.coder "lay" ["self", "one"] (sp_Coder_lay c n) ∧ OkM P w K mg base (n + 8) c.coder "choice" ["self", "one"] (sp_Coder_choice c n) ∧ OkM P w K mg base (n + 8) c.coder "loop" ["self", "one"] (sp_Coder_loop c n)) : OkM P w K mg base (n + 1 + 8) c.coder "loop" ["self", "one"] (sp_Coder_loop c (n + 1)) := by
  refine (MethAt.ok (k := n + 8) T.d_Coder_loop sc_Coder_loop (fun _ _ _ _ _ _ us hl => match us, hl with | [_, _], _ => rfl) len_Coder_loop (fun f cdv A outer s H vs Q E hr h => ⟨t_Coder_loop K c n, ?_, fun z => rd_Coder_loop h⟩)).mono (by omega)
  have hu := hu_of hr
  exact (pss_cons (ps_set (i := 2) sc_Coder_loop.nd rfl (Or.inl rfl) (pe_methC (ok_Coder_put T) (hr.mono (by omega)) T.cl_Coder (pv 0) (pa_cons (pe_tupX (pa_cons pe_str pa_nil)) pa_nil)))
    (pss_cons (ps_expr (pe_methC (okR_Coder_part T 7) (hr.mono (by omega)) T.cl_Coder (pv 0) (pa_cons (pe_ix ix_t (pv 1) pe_int (fun _ _ => rfl)) pa_nil)))
    (pss_cons (ps_set (i := 3) sc_Coder_loop.nd rfl (Or.inl rfl) (pe_methC (ok_Coder_put T) (hr.mono (by omega)) T.cl_Coder (pv 0) (pa_cons (pe_tupX (pa_cons pe_str (pa_cons pe_int pa_nil))) pa_nil)))
    (pss_cons (ps_expr (pe_methC ih.1 (hr.mono (by omega)) T.cl_Coder (pv 0) (pa_cons (pe_ix ix_t (pv 1) pe_int (fun _ _ => rfl)) pa_nil)))
    (pss_cons (ps_expr (pe_methC (ok_Coder_put T) (hr.mono (by omega)) T.cl_Coder (pv 0) (pa_cons (pe_tupX (pa_cons pe_str (pa_cons (pv 2) pa_nil))) pa_nil)))
    (pss_one (ps_asg (pe_tupX (pa_cons pe_str (pa_cons (pe_callB cl_lenL (by rfl) T.g_len (by decide +kernel) (pa_cons (pe_fldC T.cl_Coder T.na_Coder_made (pv 0)) pa_nil)) pa_nil))) (pg_sub (pe_fldC T.cl_Coder T.na_Coder_made (pv 0)) (pv 3) set_l))))))))
theorem okG_Coder_lay (T : Top K mg c) : ∀ n : Nat, OkM P w K mg base (n + 8) c.coder "lay" ["self", "one"] (sp_Coder_lay c n) ∧ OkM P w K mg base (n + 8) c.coder "choice" ["self", "one"] (sp_Coder_choice c n) ∧ OkM P w K mg base (n + 8) c.coder "loop" ["self", "one"] (sp_Coder_loop c n)
  | 0 => ⟨(MethAt.none T.d_Coder_lay (fun _ _ _ _ _ _ us hl => match us, hl with | [_, _], _ => rfl) no_Coder_lay).mono (Nat.zero_le _), (MethAt.none T.d_Coder_choice (fun _ _ _ _ _ _ us hl => match us, hl with | [_, _], _ => rfl) no_Coder_choice).mono (Nat.zero_le _), (MethAt.none T.d_Coder_loop (fun _ _ _ _ _ _ us hl => match us, hl with | [_, _], _ => rfl) no_Coder_loop).mono (Nat.zero_le _)⟩
  | n + 1 => ⟨ok_Coder_lay T n (okG_Coder_lay T n), ok_Coder_choice T n (okG_Coder_lay T n), ok_Coder_loop T n (okG_Coder_lay T n)⟩
theorem okR_Coder_lay (T : Top K mg c) (n : Nat) : OkM P w K mg base (n + 8) c.coder "lay" ["self", "one"] (sp_Coder_lay c n) := (okG_Coder_lay T n).1
theorem okR_Coder_choice (T : Top K mg c) (n : Nat) : OkM P w K mg base (n + 8) c.coder "choice" ["self", "one"] (sp_Coder_choice c n) := (okG_Coder_lay T n).2.1
theorem okR_Coder_loop (T : Top K mg c) (n : Nat) : OkM P w K mg base (n + 8) c.coder "loop" ["self", "one"] (sp_Coder_loop c n) := (okG_Coder_lay T n).2.2

abbrev nm_coded : List Str := ["program", "coder"]
theorem sc_coded : FnScope nm_coded ["program"] (defScope s_coded) := ⟨rfl, rfl, rfl, by decide +kernel, rfl, by decide +kernel, by decide +kernel⟩
theorem ok_coded (T : Top K mg c) : OkF P w K mg base (39) "coded" ["program"] sp_coded := by
  refine DefAt.ok (k := 38) T.d_coded sc_coded (fun _ _ _ _ _ _ us hl => match us, hl with | [_], _ => rfl) len_coded (fun f cdv A outer s H vs Q E hr h => ⟨t_coded K c, ?_, fun z => rd_coded h⟩)
  have hu := hu_of hr
  exact (pss_cons (ps_set (i := 1) sc_coded.nd rfl (Or.inl rfl) (pe_makeC0 (ok_Coder___init__ T) (hr.mono (by decide)) (by rfl) T.mg_Coder))
    (pss_cons (ps_expr (pe_methC (okR_Coder_lay T 30) (hr.mono (by decide)) T.cl_Coder (pv 1) (pa_cons (pv 0) pa_nil)))
    (pss_cons (ps_expr (pe_methC (ok_Coder_put T) (hr.mono (by decide)) T.cl_Coder (pv 1) (pa_cons (pe_tupX (pa_cons pe_str pa_nil)) pa_nil)))
    (pss_one (ps_ret (pe_callTy cl_tupL (by rfl) T.g_tuple (by decide +kernel) (pa_cons (pe_fldC T.cl_Coder T.na_Coder_made (pv 1)) pa_nil)))))))

abbrev nm_L_alike : List Str := ["_law_found", "_law_due", "_law_k"]
theorem sc_L_alike : FnScope nm_L_alike ["_law_found", "_law_due"] (defScope s_L_alike) := ⟨rfl, rfl, rfl, by decide +kernel, rfl, by decide +kernel, by decide +kernel⟩
theorem ok_L_alike (T : Top K mg c) (n : Nat) (ih : OkF P w K mg base (n + 0) "_law_alike" ["_law_found", "_law_due"] (sp_L_alike n)) : OkF P w K mg base (n + 1 + 0) "_law_alike" ["_law_found", "_law_due"] (sp_L_alike (n + 1)) := by
  refine (DefAt.ok (k := n + 0) T.d_L_alike sc_L_alike (fun _ _ _ _ _ _ us hl => match us, hl with | [_, _], _ => rfl) len_L_alike (fun f cdv A outer s H vs Q E hr h => ⟨t_L_alike K n, ?_, fun z => rd_L_alike h z⟩)).mono (by omega)
  have hu := hu_of hr
  exact (pss_cons (ps_if (pt_cmpR op_isN1 (pv 1) pe_non (nomark _)) (pss_one (ps_ret (pe_cmpR op_isN1 (pv 0) pe_non (nomark _)))) pss_nil)
    (pss_cons (ps_if (pt_val (pe_callB (cl_is (T := "bool")) (by rfl) T.g_isinstance (by decide +kernel) (pa_cons (pv 1) (pa_cons (pe_bltn (by rfl) T.g_bool (by decide +kernel) rfl) pa_nil)))) (pss_one (ps_ret (pe_and (pe_callB (cl_is (T := "bool")) (by rfl) T.g_isinstance (by decide +kernel) (pa_cons (pv 0) (pa_cons (pe_bltn (by rfl) T.g_bool (by decide +kernel) rfl) pa_nil))) (pe_one (pe_cmpR op_eq (pv 0) (pv 1) (nomark _)))))) pss_nil)
    (pss_cons (ps_if (pt_val (pe_callB (cl_is (T := "int")) (by rfl) T.g_isinstance (by decide +kernel) (pa_cons (pv 1) (pa_cons (pe_bltn (by rfl) T.g_int (by decide +kernel) rfl) pa_nil)))) (pss_one (ps_ret (pe_and (pe_callB (cl_is (T := "int")) (by rfl) T.g_isinstance (by decide +kernel) (pa_cons (pv 0) (pa_cons (pe_bltn (by rfl) T.g_int (by decide +kernel) rfl) pa_nil))) (pe_and (pe_not (pe_callB (cl_is (T := "bool")) (by rfl) T.g_isinstance (by decide +kernel) (pa_cons (pv 0) (pa_cons (pe_bltn (by rfl) T.g_bool (by decide +kernel) rfl) pa_nil)))) (pe_one (pe_cmpR op_eq (pv 0) (pv 1) (nomark _))))))) pss_nil)
    (pss_cons (ps_if (pt_val (pe_callB (cl_is (T := "str")) (by rfl) T.g_isinstance (by decide +kernel) (pa_cons (pv 1) (pa_cons (pe_bltn (by rfl) T.g_str (by decide +kernel) rfl) pa_nil)))) (pss_one (ps_ret (pe_and (pe_callB (cl_is (T := "str")) (by rfl) T.g_isinstance (by decide +kernel) (pa_cons (pv 0) (pa_cons (pe_bltn (by rfl) T.g_str (by decide +kernel) rfl) pa_nil))) (pe_one (pe_cmpR op_eq (pv 0) (pv 1) (nomark _)))))) pss_nil)
    (pss_cons (ps_if (PW.pt (pw_or (pt_cmpR op_ne (pe_callB (cl_is (T := "tuple")) (by rfl) T.g_isinstance (by decide +kernel) (pa_cons (pv 1) (pa_cons (pe_bltn (by rfl) T.g_tuple (by decide +kernel) rfl) pa_nil))) (pe_callB (cl_is (T := "tuple")) (by rfl) T.g_isinstance (by decide +kernel) (pa_cons (pv 0) (pa_cons (pe_bltn (by rfl) T.g_tuple (by decide +kernel) rfl) pa_nil))) (nomark _)) (pw_or1 (pt_cmpR op_ne (pe_callB (cl_is (T := "list")) (by rfl) T.g_isinstance (by decide +kernel) (pa_cons (pv 1) (pa_cons (pe_bltn (by rfl) T.g_list (by decide +kernel) rfl) pa_nil))) (pe_callB (cl_is (T := "list")) (by rfl) T.g_isinstance (by decide +kernel) (pa_cons (pv 0) (pa_cons (pe_bltn (by rfl) T.g_list (by decide +kernel) rfl) pa_nil))) (nomark _))))) (pss_one (ps_ret pe_bl)) pss_nil)
    (pss_cons (ps_if (pt_cmpR op_ne (pe_callB cl_lenQ (by rfl) T.g_len (by decide +kernel) (pa_cons (pv 0) pa_nil)) (pe_callB cl_lenQ (by rfl) T.g_len (by decide +kernel) (pa_cons (pv 1) pa_nil)) (nomark _)) (pss_one (ps_ret pe_bl)) pss_nil)
    (pss_cons (ps_for PassesOwn.never rfl (pi_range1 (by rfl) T.g_range (pa_cons (pe_callB cl_lenQ (by rfl) T.g_len (by decide +kernel) (pa_cons (pv 1) pa_nil)) pa_nil)) (pg_name (i := 2) sc_L_alike.nd rfl (Or.inl rfl))
    (pss_one (ps_if (pt_not (pt_val (pe_callF ih (hr.mono (by omega)) (by rfl) (pa_cons (pe_ix ix_q (pv 0) (pv 2) (fun _ _ => rfl)) (pa_cons (pe_ix ix_q (pv 1) (pv 2) (fun _ _ => rfl)) pa_nil))))) (pss_one (ps_ret pe_bl)) pss_nil)))
    (pss_one (ps_ret pe_bl)))))))))
theorem okG_L_alike (T : Top K mg c) : ∀ n : Nat, OkF P w K mg base (n + 0) "_law_alike" ["_law_found", "_law_due"] (sp_L_alike n)
  | 0 => (DefAt.none T.d_L_alike (fun _ _ _ _ _ _ us hl => match us, hl with | [_, _], _ => rfl) no_L_alike).mono (Nat.zero_le _)
  | n + 1 => ok_L_alike T n (okG_L_alike T n)
theorem okR_L_alike (T : Top K mg c) (n : Nat) : OkF P w K mg base (n + 0) "_law_alike" ["_law_found", "_law_due"] (sp_L_alike n) := (okG_L_alike T n)

abbrev nm_law : List Str := ["_law_script_here", "_law_box", "_law_program_here", "_law_due"]
theorem sc_law : FnScope nm_law ["_law_script_here"] (defScope s_law) := ⟨rfl, rfl, rfl, by decide +kernel, rfl, by decide +kernel, by decide +kernel⟩
theorem ok_law (T : Top K mg c) : OkF P w K mg base (41) "law" ["_law_script_here"] (sp_law K) := by
  refine DefAt.ok (k := 40) T.d_law sc_law (fun _ _ _ _ _ _ us hl => match us, hl with | [_], _ => rfl) len_law (fun f cdv A outer s H vs Q E hr h => ⟨t_law K, ?_, fun z => rd_law h⟩)
  have hu := hu_of hr
  exact (pss_cons (ps_set (i := 1) sc_law.nd rfl (Or.inl rfl) (pe_callF (ok_L_script T) (hr.mono (by decide)) (by rfl) (pa_cons (pv 0) pa_nil)))
    (pss_cons (ps_set (i := 2) sc_law.nd rfl (Or.inl rfl) (pe_callF (ok_L_program T) (hr.mono (by decide)) (by rfl) (pa_cons (pv 1) (pa_cons pe_int pa_nil))))
    (pss_cons (ps_set (i := 3) sc_law.nd rfl (Or.inl rfl) (pe_callF (ok_L_coded T) (hr.mono (by decide)) (by rfl) (pa_cons (pv 2) pa_nil)))
    (pss_one (ps_ret (pe_and (pe_callF (okR_L_alike T 40) (hr.mono (by decide)) (by rfl) (pa_cons (pe_callF (ok_coded T) (hr.mono (by decide)) (by rfl) (pa_cons (pv 2) pa_nil)) (pa_cons (pv 3) pa_nil))) (pe_one (pe_callF (okR_L_alike T 40) (hr.mono (by decide)) (by rfl) (pa_cons (pe_callF (ok_coded T) (hr.mono (by decide)) (by rfl) (pa_cons (pv 2) pa_nil)) (pa_cons (pv 3) pa_nil))))))))))

end
end Hn

namespace Hn
open PySem PySem.Spec PyProof.Rows L2
/-! ### the head: what the top leaves -/
def mkD (x : Str) (m : Option Str) (qual : Str) (st : Stmt) : He.DefD := ⟨(x, m), m.getD x, qual, defArgs st, defBody st, defScope st, [], []⟩
def fn0 : List He.DefD := [mkD "_law_script" none "_law_script" s_L_script, mkD "_law_take" none "_law_take" s_L_take, mkD "_law_name" none "_law_name" s_L_name, mkD "_law_text" none "_law_text" s_L_text, mkD "_law_part" none "_law_part" s_L_part, mkD "_law_row" none "_law_row" s_L_row, mkD "_law_statement" none "_law_statement" s_L_statement, mkD "_law_counted" none "_law_counted" s_L_counted, mkD "_law_program" none "_law_program" s_L_program, mkD "_law_part_code" none "_law_part_code" s_L_part_code, mkD "_law_code" none "_law_code" s_L_code, mkD "_law_coded" none "_law_coded" s_L_coded, mkD "Coder" (some "__init__") "Coder.__init__" s_Coder___init__, mkD "Coder" (some "put") "Coder.put" s_Coder_put, mkD "Coder" (some "part") "Coder.part" s_Coder_part, mkD "Coder" (some "lay") "Coder.lay" s_Coder_lay, mkD "Coder" (some "choice") "Coder.choice" s_Coder_choice, mkD "Coder" (some "loop") "Coder.loop" s_Coder_loop, mkD "coded" none "coded" s_coded, mkD "_law_alike" none "_law_alike" s_L_alike]
def fn1 : List He.DefD := [mkD "law" none "law" s_law]
def fnAll : List He.DefD := fn0 ++ fn1
def fa0 : List He.Fa := [.glo "_law_script", .glo "_law_take", .glo "_law_name", .glo "_law_text", .glo "_law_part", .glo "_law_row", .glo "_law_statement", .glo "_law_counted", .glo "_law_program", .glo "_law_part_code", .glo "_law_code", .glo "_law_coded", .glo "coded", .glo "_law_alike", .glo "law", .free "len", .free "range", .free "isinstance", .free "int", .free "str", .free "list", .free "tuple", .free "dict", .free "sum", .free "enumerate", .free "sorted", .free "bool", .free "reversed", .glo "Coder", .cls "Coder"]
def fa1 : List He.Fa := [.meth "Coder" "put", .meth "Coder" "part", .meth "Coder" "lay", .meth "Coder" "choice", .meth "Coder" "loop", .mkr "Coder", .noat "Coder" "made"]
def faAll : List He.Fa := fa0 ++ fa1
abbrev R : PySem.W.OpenRow := PySem.W.OpenLaw.row PySem.Challenge.rw_hunch_k02_plain_rows
abbrev hk : PySem.W.Hook := He.hookD 6 faAll fnAll
def ob (s : PySem.W.SharedT) : He.AlD := He.obsDG 6 faAll fnAll (HandSHeadRun.getT s)
theorem ob_eq (s : PySem.W.SharedT) : ob s = hk.obs s.abs := He.obsDG_eq (HandSHeadRun.getT_eq s)
def nm0 : List Str := ["Coder", "coded", "_law_script", "_law_take", "_law_alike", "_law_text", "_law_name", "_law_part", "_law_row", "_law_statement", "_law_counted", "_law_program", "_law_value", "_law_names", "_law_part_code", "_law_code", "_law_coded"]
def loose : List Str := nm0
theorem run (w : World) : HandSHeadRun.RunEq R (PySem.W.view R.prog [19]) hk ob 20000 loose w := by
  intro os
  kernel_rfl
def caOf (K : PySem.W.Frag) : CA := ⟨He.ga K "Coder", He.ga K "State", He.ga K "Notes", He.ga K "Maker", He.ga K "Slots", He.ga K "Machine", He.ga K "Words", He.ga K "Reader", He.ga K "HunchError", He.ga K "Unread", He.ga K "NoTop"⟩
theorem top_of {K : PySem.W.Frag} {h : Heap} {mg : Str → Option Value} (X : K.In h) (G : h.Ns mainGlobals mg) (c : He.SaysD faAll fnAll K) : Top K mg (caOf K) where
  d_L_script := by
    obtain ⟨fd, F⟩ := c.def_ 0 (d := mkD "_law_script" none "_law_script" s_L_script) rfl
    exact ⟨_, fd, F, He.glo_ok X G (c.fact 0 (f := .glo "_law_script") rfl)⟩
  d_L_take := by
    obtain ⟨fd, F⟩ := c.def_ 1 (d := mkD "_law_take" none "_law_take" s_L_take) rfl
    exact ⟨_, fd, F, He.glo_ok X G (c.fact 1 (f := .glo "_law_take") rfl)⟩
  d_L_name := by
    obtain ⟨fd, F⟩ := c.def_ 2 (d := mkD "_law_name" none "_law_name" s_L_name) rfl
    exact ⟨_, fd, F, He.glo_ok X G (c.fact 2 (f := .glo "_law_name") rfl)⟩
  d_L_text := by
    obtain ⟨fd, F⟩ := c.def_ 3 (d := mkD "_law_text" none "_law_text" s_L_text) rfl
    exact ⟨_, fd, F, He.glo_ok X G (c.fact 3 (f := .glo "_law_text") rfl)⟩
  d_L_part := by
    obtain ⟨fd, F⟩ := c.def_ 4 (d := mkD "_law_part" none "_law_part" s_L_part) rfl
    exact ⟨_, fd, F, He.glo_ok X G (c.fact 4 (f := .glo "_law_part") rfl)⟩
  d_L_row := by
    obtain ⟨fd, F⟩ := c.def_ 5 (d := mkD "_law_row" none "_law_row" s_L_row) rfl
    exact ⟨_, fd, F, He.glo_ok X G (c.fact 5 (f := .glo "_law_row") rfl)⟩
  d_L_statement := by
    obtain ⟨fd, F⟩ := c.def_ 6 (d := mkD "_law_statement" none "_law_statement" s_L_statement) rfl
    exact ⟨_, fd, F, He.glo_ok X G (c.fact 6 (f := .glo "_law_statement") rfl)⟩
  d_L_counted := by
    obtain ⟨fd, F⟩ := c.def_ 7 (d := mkD "_law_counted" none "_law_counted" s_L_counted) rfl
    exact ⟨_, fd, F, He.glo_ok X G (c.fact 7 (f := .glo "_law_counted") rfl)⟩
  d_L_program := by
    obtain ⟨fd, F⟩ := c.def_ 8 (d := mkD "_law_program" none "_law_program" s_L_program) rfl
    exact ⟨_, fd, F, He.glo_ok X G (c.fact 8 (f := .glo "_law_program") rfl)⟩
  d_L_part_code := by
    obtain ⟨fd, F⟩ := c.def_ 9 (d := mkD "_law_part_code" none "_law_part_code" s_L_part_code) rfl
    exact ⟨_, fd, F, He.glo_ok X G (c.fact 9 (f := .glo "_law_part_code") rfl)⟩
  d_L_code := by
    obtain ⟨fd, F⟩ := c.def_ 10 (d := mkD "_law_code" none "_law_code" s_L_code) rfl
    exact ⟨_, fd, F, He.glo_ok X G (c.fact 10 (f := .glo "_law_code") rfl)⟩
  d_L_coded := by
    obtain ⟨fd, F⟩ := c.def_ 11 (d := mkD "_law_coded" none "_law_coded" s_L_coded) rfl
    exact ⟨_, fd, F, He.glo_ok X G (c.fact 11 (f := .glo "_law_coded") rfl)⟩
  d_Coder___init__ := by
    obtain ⟨fd, F⟩ := c.def_ 12 (d := mkD "Coder" (some "__init__") "Coder.__init__" s_Coder___init__) rfl
    exact ⟨_, fd, F, He.mkr_ok (c.fact 35 (f := .mkr "Coder") rfl)⟩
  d_Coder_put := by
    obtain ⟨fd, F⟩ := c.def_ 13 (d := mkD "Coder" (some "put") "Coder.put" s_Coder_put) rfl
    exact ⟨_, fd, F, He.meth_ok (c.fact 30 (f := .meth "Coder" "put") rfl)⟩
  d_Coder_part := by
    obtain ⟨fd, F⟩ := c.def_ 14 (d := mkD "Coder" (some "part") "Coder.part" s_Coder_part) rfl
    exact ⟨_, fd, F, He.meth_ok (c.fact 31 (f := .meth "Coder" "part") rfl)⟩
  d_Coder_lay := by
    obtain ⟨fd, F⟩ := c.def_ 15 (d := mkD "Coder" (some "lay") "Coder.lay" s_Coder_lay) rfl
    exact ⟨_, fd, F, He.meth_ok (c.fact 32 (f := .meth "Coder" "lay") rfl)⟩
  d_Coder_choice := by
    obtain ⟨fd, F⟩ := c.def_ 16 (d := mkD "Coder" (some "choice") "Coder.choice" s_Coder_choice) rfl
    exact ⟨_, fd, F, He.meth_ok (c.fact 33 (f := .meth "Coder" "choice") rfl)⟩
  d_Coder_loop := by
    obtain ⟨fd, F⟩ := c.def_ 17 (d := mkD "Coder" (some "loop") "Coder.loop" s_Coder_loop) rfl
    exact ⟨_, fd, F, He.meth_ok (c.fact 34 (f := .meth "Coder" "loop") rfl)⟩
  d_coded := by
    obtain ⟨fd, F⟩ := c.def_ 18 (d := mkD "coded" none "coded" s_coded) rfl
    exact ⟨_, fd, F, He.glo_ok X G (c.fact 12 (f := .glo "coded") rfl)⟩
  d_L_alike := by
    obtain ⟨fd, F⟩ := c.def_ 19 (d := mkD "_law_alike" none "_law_alike" s_L_alike) rfl
    exact ⟨_, fd, F, He.glo_ok X G (c.fact 13 (f := .glo "_law_alike") rfl)⟩
  d_law := by
    obtain ⟨fd, F⟩ := c.def_ 20 (d := mkD "law" none "law" s_law) rfl
    exact ⟨_, fd, F, He.glo_ok X G (c.fact 14 (f := .glo "law") rfl)⟩
  cl_Coder := He.cls_ok (c.fact 29 (f := .cls "Coder") rfl)
  mg_Coder := He.glo_ok X G (c.fact 28 (f := .glo "Coder") rfl)
  na_Coder_made := He.noat_ok (c.fact 36 (f := .noat "Coder" "made") rfl)
  g_len := He.free_ok X G (c.fact 15 (f := .free "len") rfl)
  g_range := He.free_ok X G (c.fact 16 (f := .free "range") rfl)
  g_isinstance := He.free_ok X G (c.fact 17 (f := .free "isinstance") rfl)
  g_int := He.free_ok X G (c.fact 18 (f := .free "int") rfl)
  g_str := He.free_ok X G (c.fact 19 (f := .free "str") rfl)
  g_list := He.free_ok X G (c.fact 20 (f := .free "list") rfl)
  g_tuple := He.free_ok X G (c.fact 21 (f := .free "tuple") rfl)
  g_dict := He.free_ok X G (c.fact 22 (f := .free "dict") rfl)
  g_sum := He.free_ok X G (c.fact 23 (f := .free "sum") rfl)
  g_enumerate := He.free_ok X G (c.fact 24 (f := .free "enumerate") rfl)
  g_sorted := He.free_ok X G (c.fact 25 (f := .free "sorted") rfl)
  g_bool := He.free_ok X G (c.fact 26 (f := .free "bool") rfl)
  g_reversed := He.free_ok X G (c.fact 27 (f := .free "reversed") rfl)
theorem facts {P : Program} {w : World} {K : PySem.W.Frag} {h : Heap} {mg : Str → Option Value} {f : Addr} (X : K.In h) (G : h.Ns mainGlobals mg) (hfa : mg ("law" : Str) = some (.ref f)) (c : He.SaysD faAll fnAll K) :
    ∃ fd : FuncData, (∀ (s : Shared) (v : Value), BindsTo s fd ⟨[v], []⟩ [("_law_script_here", v)]) ∧ ∀ base : Heap, K.In base → base.Ns mainGlobals mg → FnOk P w K mg base CX0 41 f fd ["_law_script_here"] (sp_law K) := by
  have T := top_of X G c
  obtain ⟨fd, F⟩ := c.def_ 20 (d := mkD "law" none "law" s_law) rfl
  have e := hfa.symm.trans (He.glo_ok X G (c.fact 14 (f := .glo "law") rfl))
  have b := FunD.bindsA (ps := ["_law_script_here"]) F fun _ _ _ _ _ _ us hl => match us, hl with | [_], _ => rfl
  cases e
  refine ⟨fd, fun s v => b s [v] rfl, fun base _ _ => ?_⟩
  obtain ⟨f', fd', F', hm, kp, _, fa⟩ := ok_law (P := P) (w := w) (base := base) T
  have e1 := hm.symm.trans hfa
  cases e1
  have e2 := fa.uni (funcAt F)
  cases e2
  exact F'
end Hn
open PySem PySem.W PySem.Calls PyProof.Rows
theorem PySem.Challenge.cw_hunch_k02_plain_rows_holds : PySem.Challenge.rw_hunch_k02_plain_rows.Holds := by
  w_on; o_law
  refine HandSHeadRun.head_any (r := OpenLaw.row PySem.Challenge.rw_hunch_k02_plain_rows) (q := view (OpenLaw.row PySem.Challenge.rw_hunch_k02_plain_rows).prog [19]) (H := Hn.hk) (ob := Hn.ob) (M := 20000) (loose := Hn.loose) (d := HandSHeadRun.topDef (OpenLaw.row PySem.Challenge.rw_hunch_k02_plain_rows).prog 19) (kwd := []) Hn.ob_eq
    (by kernel_rfl) (fun s => by kernel_rfl) Hn.run (by kernel_rfl) (by kernel_rfl) (by kernel_rfl) (by rfl) (by first | assumption | decide +kernel) (by decide +kernel) ⟨rfl, rfl, rfl, rfl, rfl, by decide +kernel⟩ ?hw ?hc
  case hw => w_witness2
  case hc =>
    refine L2.walk_ofE (l := PySem.Challenge.rw_hunch_k02_plain_rows) (n := 63) (k := 41) (x := "_law_script_here") (CX := L2.CX0) rfl (by decide) (by kernel_rfl) ⟨rfl, by decide, by decide⟩ ?F (fun _ _ _ _ z => z)
    intro w mg fa h Y G hmg0
    obtain ⟨K, KX, c⟩ := Y
    have hmg : mg ("law" : PySem.Str) = some (.ref fa) := by
      have e : (HandSHeadRun.topDef (OpenLaw.row PySem.Challenge.rw_hunch_k02_plain_rows).prog 19).name = ("law" : PySem.Str) := by kernel_rfl
      rw [← e]
      exact hmg0
    obtain ⟨fd, hb, hF⟩ := Hn.facts (P := (PySem.Challenge.rw_hunch_k02_plain_rows).prog) (w := w) KX G hmg c
    exact ⟨K, fd, Hn.sp_law K, KX, hb, fun H a ns hl _ hS => ⟨a, ns, rfl, hS, hl, fun _ => rfl⟩, hF⟩


