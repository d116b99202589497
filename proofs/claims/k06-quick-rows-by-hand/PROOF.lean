import PyProof.Rows.All
import Wide.All
import OpenK.AllK
import Wide.FinOn
import KE.KStateDown
import Lean
import HandS.ForMost
import HandS.More
import HandS.IsInst
import HandS.TupAny
import HandS.Defaults
import HandS.DictComp
import HandS.Walk
import HandS.DeepEq
import HandS.Head0
import HandS.Head1
import HandS.Head2
import HandS.HeadEnd
import HandS.HeadHook1
import HandS.HeadHook2
import HandS.HeadHook3
import HandS.HeadHook4
import HandS.ExcIs
import PySem.Challenge.RW_hunch_k06_quick_rows_by_hand
import HandS.Finally
import KE.KEqNest
import HandS.Iter
import HandS.Exc
import HandS.ExcOwn
import HandS.WordsExc
set_option Elab.async false
set_option linter.all false
set_option maxRecDepth 100000
set_option maxHeartbeats 4000000
set_option autoImplicit false
namespace Hn
open PySem PySem.Spec PyProof.Rows L2
/-! ### the text by places -/
def topS (i : Nat) : Stmt := PySem.Challenge.pw_hunch_k06_quick_rows_by_hand.main.body.getD i (.Pass ⟨0, 0, 0, 0⟩)
abbrev s_kind_of : Stmt := topS 6
abbrev s_Maker___init__ : Stmt := inClass (topS 8) 0
abbrev s_Maker_slot : Stmt := inClass (topS 8) 1
abbrev s_Maker_leaving : Stmt := inClass (topS 8) 2
abbrev s_Maker_fixed : Stmt := inClass (topS 8) 3
abbrev s_Maker_name : Stmt := inClass (topS 8) 4
abbrev s_Maker_guess : Stmt := inClass (topS 8) 5
abbrev s_Maker_guard : Stmt := inClass (topS 8) 6
abbrev s_Maker_sign : Stmt := inClass (topS 8) 7
abbrev s_Maker_way : Stmt := inClass (topS 8) 8
abbrev s_Maker_plain : Stmt := inClass (topS 8) 9
abbrev s_Maker_closed : Stmt := inClass (topS 8) 10
abbrev s_Maker_follow : Stmt := inClass (topS 8) 11
abbrev s_quick_rows : Stmt := topS 9
abbrev s_Notes___init__ : Stmt := inClass (topS 11) 0
abbrev s_Notes_see : Stmt := inClass (topS 11) 1
abbrev s_Notes_forget : Stmt := inClass (topS 11) 2
abbrev s_Notes_count : Stmt := inClass (topS 11) 3
abbrev s_L_script : Stmt := topS 13
abbrev s_L_take : Stmt := topS 14
abbrev s_L_alike : Stmt := topS 15
abbrev s_L_text : Stmt := topS 16
abbrev s_L_name : Stmt := topS 17
abbrev s_L_part : Stmt := topS 18
abbrev s_L_row : Stmt := topS 19
abbrev s_L_statement : Stmt := topS 20
abbrev s_L_counted : Stmt := topS 21
abbrev s_L_program : Stmt := topS 22
abbrev s_L_value : Stmt := topS 23
abbrev s_L_names : Stmt := topS 24
abbrev s_L_part_code : Stmt := topS 25
abbrev s_L_code : Stmt := topS 26
abbrev s_L_coded : Stmt := topS 27
abbrev s_L_guesses : Stmt := topS 28
abbrev s_L_exit : Stmt := topS 29
abbrev s_L_new : Stmt := topS 30
abbrev s_L_sign : Stmt := topS 31
abbrev s_L_follow : Stmt := topS 32
abbrev s_L_quick : Stmt := topS 33
abbrev s_L_refused : Stmt := topS 34
abbrev s_law : Stmt := topS 35
/-! ### the head: what the top leaves -/
def mkD (x : Str) (m : Option Str) (qual : Str) (st : Stmt) : He.DefD := ⟨(x, m), m.getD x, qual, defArgs st, defBody st, defScope st, [], []⟩
def fn0 : List He.DefD := [mkD "_law_script" none "_law_script" s_L_script, mkD "_law_take" none "_law_take" s_L_take, mkD "_law_name" none "_law_name" s_L_name, mkD "_law_text" none "_law_text" s_L_text, mkD "_law_part" none "_law_part" s_L_part, mkD "_law_row" none "_law_row" s_L_row, mkD "_law_statement" none "_law_statement" s_L_statement, mkD "_law_counted" none "_law_counted" s_L_counted, mkD "_law_program" none "_law_program" s_L_program, mkD "_law_part_code" none "_law_part_code" s_L_part_code, mkD "_law_code" none "_law_code" s_L_code, mkD "_law_coded" none "_law_coded" s_L_coded, mkD "_law_guesses" none "_law_guesses" s_L_guesses, mkD "Notes" (some "__init__") "Notes.__init__" s_Notes___init__, mkD "_law_new" none "_law_new" s_L_new, mkD "_law_exit" none "_law_exit" s_L_exit, mkD "_law_sign" none "_law_sign" s_L_sign, mkD "_law_follow" none "_law_follow" s_L_follow, mkD "_law_quick" none "_law_quick" s_L_quick, mkD "Maker" (some "__init__") "Maker.__init__" s_Maker___init__]
def fn1 : List He.DefD := [mkD "Maker" (some "leaving") "Maker.leaving" s_Maker_leaving, mkD "Maker" (some "way") "Maker.way" s_Maker_way, mkD "Maker" (some "slot") "Maker.slot" s_Maker_slot, mkD "kind_of" none "kind_of" s_kind_of, mkD "Maker" (some "fixed") "Maker.fixed" s_Maker_fixed, mkD "Maker" (some "name") "Maker.name" s_Maker_name, mkD "Maker" (some "guess") "Maker.guess" s_Maker_guess, mkD "Maker" (some "guard") "Maker.guard" s_Maker_guard, mkD "Maker" (some "sign") "Maker.sign" s_Maker_sign, mkD "Maker" (some "plain") "Maker.plain" s_Maker_plain, mkD "Maker" (some "closed") "Maker.closed" s_Maker_closed, mkD "Maker" (some "follow") "Maker.follow" s_Maker_follow, mkD "quick_rows" none "quick_rows" s_quick_rows, mkD "_law_alike" none "_law_alike" s_L_alike, mkD "_law_refused" none "_law_refused" s_L_refused, mkD "law" none "law" s_law]
def fnAll : List He.DefD := fn0 ++ fn1
def fa0 : List He.Fa := [.glo "_law_script", .glo "_law_take", .glo "_law_name", .glo "_law_text", .glo "_law_part", .glo "_law_row", .glo "_law_statement", .glo "_law_counted", .glo "_law_program", .glo "_law_part_code", .glo "_law_code", .glo "_law_coded", .glo "_law_guesses", .glo "_law_new", .glo "_law_exit", .glo "_law_sign", .glo "_law_follow", .glo "_law_quick", .glo "kind_of", .glo "quick_rows", .glo "_law_alike", .glo "_law_refused", .glo "law", .free "len", .free "range", .free "isinstance", .free "int", .free "str", .free "list", .free "tuple"]
def fa1 : List He.Fa := [.free "dict", .free "sum", .free "enumerate", .free "sorted", .free "bool", .free "reversed", .glo "Maker", .cls "Maker", .meth "Maker" "slot", .meth "Maker" "leaving", .meth "Maker" "fixed", .meth "Maker" "name", .meth "Maker" "guess", .meth "Maker" "guard", .meth "Maker" "sign", .meth "Maker" "way", .meth "Maker" "plain", .meth "Maker" "closed", .meth "Maker" "follow", .mkr "Maker", .noat "Maker" "code", .noat "Maker" "guess_kinds", .noat "Maker" "guess_ways", .noat "Maker" "rows", .noat "Maker" "many", .noat "Maker" "where", .noat "Maker" "changed", .noat "Maker" "half", .noat "Maker" "known", .glo "Notes"]
def fa2 : List He.Fa := [.cls "Notes", .meth "Notes" "see", .meth "Notes" "forget", .meth "Notes" "count", .mkr "Notes", .noat "Notes" "kinds", .noat "Notes" "ways", .noat "Notes" "tops", .glo "HunchError", .glo "Unread", .glo "NoTop", .exc "NoTop", .exm "NoTop" "HunchError" true, .free "ValueError"]
def faAll : List He.Fa := fa0 ++ fa1 ++ fa2
abbrev rowE : PySem.W.OpenRow := PySem.W.OpenLaw.row PySem.Challenge.rw_hunch_k06_quick_rows_by_hand
def excCB (K : PySem.W.Frag) (D : Addr) : Bool := He.eqO (PySem.W.findIn K (.ref D) "__getattribute__") (some (some (.builtin "BaseException.__getattribute__"))) && (He.eqO (PySem.W.findIn K (.ref D) "__getattr__") (some none) && (decide (PySem.W.subIn K (.ref D) (.type "BaseException") = some true) && (PySem.W.hasDictIn K D && (He.eqO (PySem.W.findIn K (.ref D) "__class__") (some (some (.builtin "object.__class__"))) && (He.eqO (PySem.W.specialIn K (.builtin "object.__class__") "__get__") (some (some (.builtin "getset_descriptor.__get__"))) && (decide (PySem.W.takesIn K (.builtin "object.__class__") = some true) && decide (PySem.W.mroIn K D (.type "object") = some true)))))))
theorem excCB_ok {K : PySem.W.Frag} {D : Addr} (h : excCB K D = true) : ExcC K D := by
  obtain ⟨h1, h⟩ := He.ba h
  obtain ⟨h2, h⟩ := He.ba h
  obtain ⟨h3, h⟩ := He.ba h
  obtain ⟨h4, h⟩ := He.ba h
  obtain ⟨h5, h⟩ := He.ba h
  obtain ⟨h6, h⟩ := He.ba h
  obtain ⟨h7, h8⟩ := He.ba h
  exact ⟨He.eqO_ok h1, He.eqO_ok h2, of_decide_eq_true h3, h4, He.eqO_ok h5, He.eqO_ok h6, of_decide_eq_true h7, of_decide_eq_true h8⟩
def exE (K : PySem.W.Frag) : Bool := excCB K (He.ga K "NoTop") && (decide (PySem.W.kitOne K (.ref (He.ga K "NoTop")) (.type "ValueError") = some true) && (decide (PySem.W.kitOne K (.ref (He.ga K "NoTop")) (.ref (He.ga K "Unread")) = some false) && decide (PySem.W.kitOne K (.ref (He.ga K "NoTop")) (.ref (He.ga K "HunchError")) = some true)))
def tsE : List He.Tab := []
abbrev hkE : PySem.W.Hook := He.hookX 6 faAll fnAll tsE [] exE
def obE (s : PySem.W.SharedT) : He.AlX := He.obsX 6 faAll fnAll tsE [] exE (HandSHeadRun.getT s)
theorem obE_eq (s : PySem.W.SharedT) : obE s = hkE.obs s.abs := He.obsX_eq (HandSHeadRun.getT_eq s)
def nmE0 : List Str := ["_wall", "HunchError", "Unread", "NoTop", "kind_of", "Maker", "quick_rows", "Notes", "_law_script", "_law_take", "_law_alike", "_law_text", "_law_name", "_law_part", "_law_row", "_law_statement", "_law_counted", "_law_program", "_law_value", "_law_names", "_law_part_code", "_law_code", "_law_coded", "_law_guesses", "_law_exit", "_law_new", "_law_sign", "_law_follow", "_law_quick", "_law_refused"]
def looseE : List Str := nmE0
theorem runE (w : World) : HandSHeadRun.RunEq rowE (PySem.W.view rowE.prog [35]) hkE obE 20000 looseE w := by
  intro os
  kernel_rfl


/-! The layer of these proofs: a def's promise by its name, readings of the heap by plain equations, frames. -/

/-! ### sizes: what stands in the heap is within the line -/
def HSz (H : Hp) : Prop := ∀ a, (∀ xs, H a = some (.lst xs) → xs.length ≤ sizeLine) ∧ (∀ xs, H a = some (.tup xs) → xs.length ≤ sizeLine) ∧ ∀ kvs, H a = some (.dK kvs) → kvs.length ≤ sizeLine
theorem hsz_of {X : Cx} {pins : List (Addr × Obj)} {σ : List (Option V)} {H : Hp} {s : Shared} (I : Inv X pins σ H s) : HSz H := fun a => by
  refine ⟨fun xs h => ?_, fun xs h => ?_, fun xs h => ?_⟩
  · obtain ⟨z, _⟩ := I.hok a _ h; exact z
  · obtain ⟨z, _⟩ := I.hok a _ h; exact z
  · obtain ⟨z, _⟩ := I.hok a _ h; exact z
theorem pssSz {X : Cx} {b : List Stmt} {t : TS} (h : PSs X b t) : PSs X b (fun D σ H => HSz H → t D σ H) := ⟨fun pins s σ H D I q => h.run pins s σ H D I (q (hsz_of I))⟩

/-! ### defs by name -/
section
variable (P : Program) (w : World) (K : PySem.W.Frag) (mg : Str → Option Value) (base : Heap)
/-- the function object at f -/
def FuncAt (K : PySem.W.Frag) (f : Addr) (fd : FuncData) : Prop := ∃ oc od osl, K.lookup f = some ⟨oc, od, .func fd, osl⟩
/-- the module's def x keeps sp, k calls deep at most -/
def OkF (k : Nat) (x : Str) (ps : List Str) (sp : Sp) : Prop :=
  ∃ f fd, FnOk P w K mg base CX0 k f fd ps sp ∧ mg x = some (.ref f) ∧ PySem.W.keepIn K (.ref f) = true ∧ Binds K fd ps [] ∧ FuncAt K f fd
/-- the def st stands under the name x -/
def DefAt (x : Str) (st : Stmt) : Prop := ∃ f fd, FunD K x x (defArgs st) (defBody st) (defScope st) [] [] f fd ∧ mg x = some (.ref f)
end
section
variable {P : Program} {w : World} {K : PySem.W.Frag} {mg : Str → Option Value} {base : Heap}
theorem funcAt {x qual : Str} {params : Arguments} {body : List Stmt} {scope : Scope} {dvs : List V} {kws : List (Str × V)} {f : Addr} {fd : FuncData} (F : FunD K x qual params body scope dvs kws f fd) : FuncAt K f fd := by
  obtain ⟨oc, od, _, _, _, _, _, _, _, osl, _, e, _⟩ := F.ex
  exact ⟨oc, od, osl, e⟩
theorem FuncAt.uni {f : Addr} {fd fd' : FuncData} (a : FuncAt K f fd) (b : FuncAt K f fd') : fd = fd' := by
  obtain ⟨_, _, _, e⟩ := a
  obtain ⟨_, _, _, e'⟩ := b
  rw [e] at e'
  simp only [Option.some.injEq, Obj.mk.injEq, Data.func.injEq] at e'
  exact e'.2.2.1
theorem OkF.mono {j k : Nat} {x : Str} {ps : List Str} {sp : Sp} (F : OkF P w K mg base j x ps sp) (h : j ≤ k) : OkF P w K mg base k x ps sp := by
  obtain ⟨f, fd, F, a, b, c, d⟩ := F
  exact ⟨f, fd, F.mono h, a, b, c, d⟩
theorem DefAt.ok {x : Str} {st : Stmt} {N ps : List Str} {k : Nat} {sp : Sp} (D : DefAt K mg x st) (S : FnScope N ps (defScope st))
    (hb : ∀ (kV doc pm : Value) (an : Option Addr) (cdv ct : Value) (us : List Value), us.length = ps.length → bindArgs (PySem.W.fnOf x x (defArgs st) (defBody st) (defScope st) .none kV doc pm an cdv ct) ⟨us, []⟩ = pure (ps.zip us))
    (len : ∀ vs H Q E, sp vs H Q E → vs.length = ps.length)
    (hbody : ∀ (f : Addr) (cdv : Value) (A : Around) (outer : List Env) (s : Shared) (H : Hp) (vs : List V) (Q : VK) (E : XK), Room k (A.deeper (envOfC x (defScope st) s.heap.objs.size f cdv)) → sp vs H Q E →
      ∃ t, PSs (cxOf CX0 P w K mg base N x (defScope st) f cdv A outer s H E).nox (defBody st) t ∧ (HSz H → t { nx := fun _ H' => Q .non H', rt := Q } (start N vs) H)) : OkF P w K mg base (k + 1) x ps sp := by
  obtain ⟨f, fd, F, hm⟩ := D
  refine ⟨f, fd, F.ok S len fun cdv A outer s H vs Q E hr h => ?_, hm, F.kp, F.bindsN hb, funcAt F⟩
  obtain ⟨t, h1, h2⟩ := hbody f cdv A outer s H vs Q E hr h
  exact ⟨_, (pssSz h1).nox, h2⟩
/-- nothing is asked: nothing is to be kept -/
theorem DefAt.none {x : Str} {st : Stmt} {ps : List Str} {sp : Sp} (D : DefAt K mg x st)
    (hb : ∀ (kV doc pm : Value) (an : Option Addr) (cdv ct : Value) (us : List Value), us.length = ps.length → bindArgs (PySem.W.fnOf x x (defArgs st) (defBody st) (defScope st) .none kV doc pm an cdv ct) ⟨us, []⟩ = pure (ps.zip us))
    (no : ∀ vs H Q E, ¬ sp vs H Q E) : OkF P w K mg base 0 x ps sp := by
  obtain ⟨f, fd, F, hm⟩ := D
  exact ⟨f, fd, ⟨fun vs H Q E h => absurd h (no vs H Q E), fun A outer s H args us vs Q E _ _ _ _ h => absurd h (no vs H Q E)⟩, hm, F.kp, F.bindsN hb, funcAt F⟩
end
section
variable {X : Cx} {k : Nat} {x : Str} {ps : List Str} {sp : Sp} {e : Expr} {es : List Expr} {t : TA} {p pos : Pos}
theorem pe_callF (F : OkF X.prog X.w X.K X.mg X.base k x ps sp) (hr : Room k X.A) (hg : Gl X x) (ha : PA X (e :: es) t) (hdb : (x == ("__debug__" : Str)) = false := by decide) (he : starEach (e :: es) X.env = (false, eval e X.env) :: starEach es X.env := by rfl) (hpl : (backTo pos (starEach es X.env)).any (·.1) = false := by rfl) :
    PE X (.Call (.Name x p) (e :: es) [] pos) (tCall sp [] E0 t) := by
  obtain ⟨f, fd, F, hm, kp, b, _⟩ := F
  exact pe_call F hr hg hm kp b .nil pass0 ha hdb he hpl
end

/-! ### weaker readings -/
section
variable {X : Cx}
theorem peM {e : Expr} {t t' : TE} (h : PE X e t) (m : ∀ σ H Q, t' σ H Q → t σ H Q) : PE X e t' := ⟨fun pins s σ H Q I q => h.run pins s σ H Q I (m σ H Q q)⟩
theorem ptM {e : Expr} {t t' : TT} (h : PT X e t) (m : ∀ σ H Q, t' σ H Q → t σ H Q) : PT X e t' := ⟨fun pins s σ H Q I q => h.run pins s σ H Q I (m σ H Q q)⟩
theorem psM {e : Stmt} {t t' : TS} (h : PS X e t) (m : ∀ D σ H, t' D σ H → t D σ H) : PS X e t' := ⟨fun pins s σ H D I q => h.run pins s σ H D I (m D σ H q)⟩
/-- what follows may be weaker -/
def tMono (t : TE) : TE := fun σ H Q => ∃ Q0 : VK, t σ H Q0 ∧ ∀ x H1, Q0 x H1 → Q x H1
theorem mo {e : Expr} {t : TE} (h : PE X e t) : PE X e (tMono t) := by
  refine ⟨fun pins s σ H Q I ⟨Q0, h0, m⟩ => ?_⟩
  refine thn (h.run pins s σ H Q0 I h0) fun u s' ⟨v, H', I', r, q⟩ => ⟨v, H', I', r, m v H' q⟩
def tMonoA (t : TA) : TA := fun σ H Q => ∃ Q0 : List V → Hp → Prop, t σ H Q0 ∧ ∀ x H1, Q0 x H1 → Q x H1
theorem moA {es : List Expr} {t : TA} (h : PA X es t) : PA X es (tMonoA t) := by
  refine ⟨fun pos pins s σ H Q I ⟨Q0, h0, m⟩ => ?_⟩
  refine thn (h.run pos pins s σ H Q0 I h0) fun u s' ⟨v, H', I', r, q⟩ => ⟨v, H', I', r, m v H' q⟩
theorem opM {f : Value → Value → Sem Value} {r r' : R2} (h : OpR X f r) (m : ∀ x y H Q, r' x y H Q → r x y H Q) : OpR X f r' := fun pins s σ H x y v u Q I rx ry q => h pins s σ H x y v u Q I rx ry (m x y H Q q)
theorem ixM {r r' : R2} (h : IxR X r) (m : ∀ x y H Q, r' x y H Q → r x y H Q) : IxR X r' := fun a b pins s σ H x y v u Q I rx ry q => h a b pins s σ H x y v u Q I rx ry (m x y H Q q)
theorem clM {f : Value} {r r' : List V → Hp → VK → Prop} (h : CallR X f r) (m : ∀ xs H Q, r' xs H Q → r xs H Q) : CallR X f r' := fun pins s σ H xs us Q I r q => h pins s σ H xs us Q I r (m xs H Q q)
end

/-! ### a new object, a changed object -/
structure Al (H : Hp) (p : Addr) (o : HO) (H' : Hp) : Prop where
  new : H p = none
  at_ : H' p = some o
  k : ∀ {b u}, H b = some u → H' b = some u
structure Mu (H : Hp) (p : Addr) (o : HO) (H' : Hp) : Prop where
  nt : ∀ xs, H p ≠ some (.tup xs)
  at_ : H' p = some o
  k : ∀ {b u}, H b = some u → b ≠ p → H' b = some u
theorem Al.of {H : Hp} {p : Addr} {o : HO} (h : H p = none) : Al H p o (upd H p o) := ⟨h, upd_same, fun e => by rw [upd_ne (ne_of_none e h)]; exact e⟩
theorem Mu.of {H : Hp} {p : Addr} {o u : HO} (h : H p = some u) (hu : ∀ xs, u ≠ .tup xs) : Mu H p o (upd H p o) :=
  ⟨fun xs e => hu xs (by rw [h] at e; exact Option.some.inj e), upd_same, fun e ne => by rw [upd_ne ne]; exact e⟩

/-! ### readings of the heap by equations -/
def rXL : R2 := fun x y H Q => ∃ p xs i v, x = .ref p ∧ y = .int i ∧ H p = some (.lst xs) ∧ atI xs i = some v ∧ Q v H
def rXT : R2 := fun x y H Q => ∃ p xs i v, x = .ref p ∧ y = .int i ∧ H p = some (.tup xs) ∧ atI xs i = some v ∧ Q v H
/-- x in a tuple that was just laid -/
def rInT (neg : Bool) : R2 := fun x y H Q => ∃ p xs, y = .ref p ∧ H p = some (.tup xs) ∧ flatV x = true ∧ xs.all flatV = true ∧ Q (.bl (if neg then !inV x xs else inV x xs)) H
def rLenL : List V → Hp → VK → Prop := fun vs H Q => ∃ p xs, vs = [.ref p] ∧ H p = some (.lst xs) ∧ Q (.int xs.length) H
def rLenT : List V → Hp → VK → Prop := fun vs H Q => ∃ p xs, vs = [.ref p] ∧ H p = some (.tup xs) ∧ Q (.int xs.length) H
def rLenS : List V → Hp → VK → Prop := fun vs H Q => ∃ z, vs = [.str z] ∧ z.length ≤ sizeLine ∧ Q (.int z.length) H
def rInt1 : List V → Hp → VK → Prop := fun vs H Q => (∃ i, vs = [.int i] ∧ Q (.int i) H) ∨ ∃ k, vs = [.bl k] ∧ Q (.int (if k then 1 else 0)) H
def rTupL : List V → Hp → VK → Prop := fun vs H Q => ∃ p xs, vs = [.ref p] ∧ H p = some (.lst xs) ∧ ∀ l H', Al H l (.tup xs) H' → Q (.ref l) H'
def rLstL : List V → Hp → VK → Prop := fun vs H Q => ∃ p xs, vs = [.ref p] ∧ H p = some (.lst xs) ∧ ∀ l H', Al H l (.lst xs) H' → Q (.ref l) H'
/-- isinstance(x, a built-in class) -/
def rIs (T : String) : List V → Hp → VK → Prop := fun vs H Q => ∃ x b, vs = [x, .ty T] ∧ (∃ n, (match x with
  | .non => n = "NoneType"
  | .bl _ => n = "bool"
  | .int _ => n = "int"
  | .str _ => n = "str"
  | .ref a => (match H a with
    | some (.lst _) => n = "list"
    | some (.tup _) => n = "tuple"
    | some (.dK _) => n = "dict"
    | _ => False)
  | _ => False) ∧ kitB n T = some b) ∧ Q (.bl b) H
/-- a list of ints beside another -/
def rEqI : R2 := fun x y H Q => ∃ (p q : Addr) (ns ms : List Int), x = .ref p ∧ y = .ref q ∧ H p = some (.lst (ns.map V.int)) ∧ H q = some (.lst (ms.map V.int)) ∧ Q (.bl (decide (ns = ms))) H
def rCt : R2 := fun x y H Q => ∃ l b xs zs, x = .ref l ∧ y = .ref b ∧ H l = some (.lst xs) ∧ H b = some (.lst zs) ∧ xs.length + zs.length ≤ sizeLine ∧ ∀ p H', Al H p (.lst (xs ++ zs)) H' → Q (.ref p) H'
def rStL : V → V → V → Hp → (Hp → Prop) → Prop := fun o i v H Q => ∃ p xs k j, o = .ref p ∧ i = .int k ∧ H p = some (.lst xs) ∧ ixN xs.length k = some j ∧ ∀ H', Mu H p (.lst (xs.set j v)) H' → Q H'
def rSL : V → Option Int → Option Int → Hp → VK → Prop := fun x lo hi H Q => ∃ a xs, x = .ref a ∧ H a = some (.lst xs) ∧ ∀ p H', Al H p (.lst (cutV xs lo hi)) H' → Q (.ref p) H'
section
variable {X : Cx} {a b o : Expr} {ta tb : TE} {pos : Pos}
theorem ix_l : IxR X rXL := ixM ix_list fun _ _ _ _ ⟨p, xs, i, v, e1, e2, h, e, q⟩ => ⟨p, xs, i, v, e1, e2, SqL.of h, e, q⟩
theorem ix_t : IxR X rXT := ixM ix_tup fun _ _ _ _ ⟨p, xs, i, v, e1, e2, h, e, q⟩ => ⟨p, xs, i, v, e1, e2, SqT.of h, e, q⟩
theorem op_inT : OpR X (compareOp .In) (rInT false) := opM op_in_seq fun _ _ _ _ ⟨p, xs, e, h, h1, h2, q⟩ => ⟨p, xs, e, .inr (SqT.of h), h1, h2, q⟩
theorem op_ninT : OpR X (compareOp .NotIn) (rInT true) := opM op_notIn_seq fun _ _ _ _ ⟨p, xs, e, h, h1, h2, q⟩ => ⟨p, xs, e, .inr (SqT.of h), h1, h2, q⟩
theorem cl_lenL : CallR X (.builtin "len") rLenL := clM call_len_seq fun _ _ _ ⟨p, xs, e, h, q⟩ => ⟨p, xs, e, .inl (SqL.of h), q⟩
theorem cl_lenT : CallR X (.builtin "len") rLenT := clM call_len_seq fun _ _ _ ⟨p, xs, e, h, q⟩ => ⟨p, xs, e, .inr (SqT.of h), q⟩
theorem cl_lenS : CallR X (.builtin "len") rLenS := call_len_str
theorem cl_int1 : CallR X (.type "int") rInt1 := call_int1
theorem cl_tupL : CallR X (.type "tuple") rTupL := clM call_tuple_of fun _ _ _ ⟨p, xs, e, h, q⟩ => ⟨p, xs, e, .inl ⟨SqL.of h, fun l hl => q l _ (.of hl)⟩⟩
theorem cl_lstL : CallR X (.type "list") rLstL := clM call_list_of fun _ _ _ ⟨p, xs, e, h, q⟩ => ⟨p, xs, e, .inl (SqL.of h), fun l hl => q l _ (.of hl)⟩
theorem op_ct : OpR X (binaryOp .Add) rCt := opM op_cat fun _ _ _ _ ⟨l, b, xs, zs, e1, e2, h1, h2, hz, q⟩ => ⟨l, b, xs, zs, e1, e2, h1, h2, hz, fun p hp => q p _ (.of hp)⟩
theorem set_l : PSet X rStL := fun pins s σ H o i v ov iv u Q I ro ri rv ⟨p, xs, k, j, e1, e2, h, hj, q⟩ => set_list pins s σ H o i v ov iv u Q I ro ri rv ⟨p, xs, k, j, e1, e2, h, hj, q _ (.of h fun _ z => by cases z)⟩
theorem sl_l : SlR X rSL := fun pins s σ H x v vl vu lo hi sl Q I rx hs pl pu ⟨a, xs, e, h, q⟩ => sl_list pins s σ H x v vl vu lo hi sl Q I rx hs pl pu ⟨a, xs, e, SqL.of h, fun p hp => q p _ (.of hp)⟩
theorem cl_is {T : String} : CallR X (.builtin "isinstance") (rIs T) := by
  refine clM call_isi ?_
  rintro vs H Q ⟨x, b, e, ⟨n, hn, hk⟩, q⟩
  refine ⟨x, .ty T, .type n, .type T, b, e, .ty T, ?_, kit_ty hk, q⟩
  cases x with
  | non => cases hn; exact .base .non
  | bl b => cases hn; exact .base (.bl b)
  | int i => cases hn; exact .base (.int i)
  | str s => cases hn; exact .base (.str s)
  | ref a =>
    have hn' : (match H a with
      | some (.lst _) => n = "list"
      | some (.tup _) => n = "tuple"
      | some (.dK _) => n = "dict"
      | _ => False) := hn
    cases ea : H a with
    | none => rw [ea] at hn'; exact hn'.elim
    | some u =>
      rw [ea] at hn'
      cases u with
      | lst xs => cases hn'; exact .base (.lst ea)
      | tup xs => cases hn'; exact .base (.tup ea)
      | dK kvs => cases hn'; exact .base (.dK ea)
      | _ => exact hn'.elim
  | _ => exact hn.elim
end

/-! ### words: texts that differ -/
def wds : List Str := (["num", "text", "name", "add", "sub", "less", "same", "say", "set", "unless", "go", "top", "end", "row"] : List Str) ++ ((["if", "while",
  "turn", "get", "is", "so", "put", "again", "leave", "n", "t", "any", "done", "dry"] : List Str) ++ (["mixed", "else",
  "place", "names", "half", "left", "said", "last", "rows", "many", "slots", "kinds", "stack", "made"] : List Str))
def wd (i : Nat) : Str := wds.getD i ""
theorem wds_nd : wds.Nodup := by decide +kernel
theorem wds_len : wds.length = 42 := by decide +kernel
theorem wd_get {i : Nat} (h : i < 42) : wds[i]? = some (wd i) := by
  have h' : i < wds.length := by rw [wds_len]; exact h
  unfold wd
  rw [List.getD_eq_getElem?_getD, List.getElem?_eq_getElem h']
  rfl
/-- two words of the list are one only at one place -/
theorem wd_eq {i j : Nat} (hi : i < 42) (hj : j < 42) : (wd i = wd j) = (i = j) := by
  refine propext ⟨fun e => ?_, fun e => by rw [e]⟩
  have h1 := wd_get hi
  have h2 := wd_get hj
  rw [← e] at h2
  exact nd_ix wds_nd h1 h2
theorem wd_ne0 {i : Nat} (hi : i < 42) : (wd i = ("" : Str)) = False := by
  refine eq_false fun e => ?_
  have a : ("" : Str) ∉ wds := by decide +kernel
  exact a (by rw [← e]; exact List.mem_of_getElem? (wd_get hi))
theorem wd_ne0' {i : Nat} (hi : i < 42) : (("" : Str) = wd i) = False := (propext eq_comm).trans (wd_ne0 hi)
theorem eqV_str (a b : Str) : eqV (.str a) (.str b) = decide (a = b) := by
  show (a == b) = decide (a = b)
  by_cases e : a = b
  · subst e; simp
  · rw [decide_eq_false e]; exact beq_eq_false_iff_ne.mpr e
theorem eqV_int (a b : Int) : eqV (.int a) (.int b) = decide (a = b) := by
  show (a == b) = decide (a = b)
  by_cases e : a = b
  · subst e; simp
  · rw [decide_eq_false e]; exact beq_eq_false_iff_ne.mpr e
theorem eqV_is (a : Int) (b : Str) : eqV (.int a) (.str b) = false := rfl
theorem eqV_si (a : Int) (b : Str) : eqV (.str b) (.int a) = false := rfl
theorem inV_nil (x : V) : inV x [] = false := rfl
theorem inV_cons (x y : V) (ys : List V) : inV x (y :: ys) = (eqV y x || inV x ys) := rfl

/-! ### items at written places -/
theorem atI0 {α : Type} (x : α) (r : List α) : atI (x :: r) 0 = some x := atI_nat (j := 0) rfl
theorem atI1 {α : Type} (x y : α) (r : List α) : atI (x :: y :: r) 1 = some y := atI_nat (j := 1) rfl
theorem atI2 {α : Type} (x y z : α) (r : List α) : atI (x :: y :: z :: r) 2 = some z := atI_nat (j := 2) rfl
theorem atI3 {α : Type} (x y z u : α) (r : List α) : atI (x :: y :: z :: u :: r) 3 = some u := atI_nat (j := 3) rfl
theorem ixN_n {n j : Nat} (hj : j < n) : ixN n (j : Int) = some j := by
  unfold ixN
  rw [if_pos (by omega), if_pos (by omega)]
  simp
theorem ixN0 {α : Type} (x : α) (r : List α) : ixN (x :: r).length 0 = some 0 := ixN_n (j := 0) (by simp)
theorem ixN1 {α : Type} (x y : α) (r : List α) : ixN (x :: y :: r).length 1 = some 1 := ixN_n (j := 1) (by simp)
theorem ixN2 {α : Type} (x y z : α) (r : List α) : ixN (x :: y :: z :: r).length 2 = some 2 := ixN_n (j := 2) (by simp)
theorem ixN3 {α : Type} (x y z u : α) (r : List α) : ixN (x :: y :: z :: u :: r).length 3 = some 3 := ixN_n (j := 3) (by simp)
theorem atI_of {α : Type} {xs : List α} {i : Int} (h0 : 0 ≤ i) (h1 : i < xs.length) : ∃ v, atI xs i = some v ∧ v ∈ xs := by
  have h : i.toNat < xs.length := by omega
  have e : atI xs ((i.toNat : Nat) : Int) = some xs[i.toNat] := atI_nat (List.getElem?_eq_getElem h)
  rw [Int.toNat_of_nonneg h0] at e
  exact ⟨_, e, List.getElem_mem h⟩

/-! ### more rules -/
def rAddS : R2 := fun x y H Q => ∃ i j, x = .str i ∧ y = .str j ∧ i.length + j.length ≤ sizeLine ∧ Q (.str (i ++ j)) H
def rLtS : R2 := fun x y H Q => ∃ i j, x = .str i ∧ y = .str j ∧ Q (.bl (decide (i.cps.toList < j.cps.toList))) H
def rInS1 : R2 := fun x y H Q => ∃ (c : Nat) (z : Str), x = .str ⟨#[c]⟩ ∧ y = .str z ∧ Q (.bl (decide (c ∈ z.cps.toList))) H
def rNinS1 : R2 := fun x y H Q => ∃ (c : Nat) (z : Str), x = .str ⟨#[c]⟩ ∧ y = .str z ∧ Q (.bl (!decide (c ∈ z.cps.toList))) H
def rIsN : R2 := fun x y H Q => y = .non ∧ Q (.bl (decide (x = .non))) H
def rNotN : R2 := fun x y H Q => y = .non ∧ Q (.bl (!decide (x = .non))) H
/-- a list of ints beside an empty one -/
def rEqE : R2 := fun x y H Q => ∃ (p q : Addr) (ns : List Int), x = .ref p ∧ y = .ref q ∧ H p = some (.lst (ns.map V.int)) ∧ H q = some (.lst []) ∧ Q (.bl ns.isEmpty) H
def rXQ : R2 := fun x y H Q => ∃ p xs i v, x = .ref p ∧ y = .int i ∧ (H p = some (.lst xs) ∨ H p = some (.tup xs)) ∧ atI xs i = some v ∧ Q v H
def rLenQ : List V → Hp → VK → Prop := fun vs H Q => ∃ p xs, vs = [.ref p] ∧ (H p = some (.lst xs) ∨ H p = some (.tup xs)) ∧ Q (.int xs.length) H
def rLenK (K : PySem.W.Frag) : List V → Hp → VK → Prop := fun xs H Q => ∃ p ys, xs = [.ref p] ∧ (SqL K H p ys ∨ SqT K H p ys) ∧ Q (.int ys.length) H
def rLstK (K : PySem.W.Frag) : List V → Hp → VK → Prop := fun xs H Q => ∃ p ys, xs = [.ref p] ∧ (SqL K H p ys ∨ SqT K H p ys) ∧ ∀ l H', Al H l (.lst ys) H' → Q (.ref l) H'
def tApp (to te : TE) : TE := fun σ H Q => to σ H fun x H1 => ∃ l xs', x = .ref l ∧ H1 l = some (.lst xs') ∧ te σ H1 fun y H2 => ∃ xs, H2 l = some (.lst xs) ∧ xs.length < sizeLine ∧ ∀ H', Mu H2 l (.lst (xs ++ [y])) H' → Q .non H'
def tPopAt (to te : TE) : TE := fun σ H Q => to σ H fun x H1 => ∃ l xs', x = .ref l ∧ H1 l = some (.lst xs') ∧ te σ H1 fun y H2 => ∃ x0 xs, y = .int 0 ∧ H2 l = some (.lst (x0 :: xs)) ∧ ∀ H', Mu H2 l (.lst xs) H' → Q x0 H'
def tPopL (to : TE) : TE := fun σ H Q => to σ H fun x H1 => ∃ l xs y, x = .ref l ∧ H1 l = some (.lst xs) ∧ xs[xs.length - 1]? = some y ∧ ∀ H', Mu H1 l (.lst xs.dropLast) H' → Q y H'
def tJoinL (to te : TE) : TE := fun σ H Q => to σ H fun x H1 => ∃ a : Str, x = .str a ∧ te σ H1 fun y H2 => ∃ (p : Addr) (ys : List Str), y = .ref p ∧ H2 p = some (.lst (ys.map V.str)) ∧
  (ys.map (·.length)).sum + ys.length * a.length ≤ 16777216 ∧ Q (.str (Txt.join a ys)) H2
/-- displays -/
def xTup (t : TA) : TE := fun σ H Q => t σ H fun xs H1 => xs.length ≤ sizeLine ∧ ∀ p H2, Al H1 p (.tup xs) H2 → Q (.ref p) H2
def xLst (t : TA) : TE := fun σ H Q => t σ H fun xs H1 => xs.length ≤ sizeLine ∧ ∀ p H2, Al H1 p (.lst xs) H2 → Q (.ref p) H2
def xDic : TE := fun _ H Q => ∀ p H2, Al H p (.dK []) H2 → Q (.ref p) H2
def tIndex (to te : TE) : TE := fun σ H Q => to σ H fun x H1 => ∃ a ys', x = .ref a ∧ H1 a = some (.lst ys') ∧ te σ H1 fun y H2 => ∃ (ys : List V) (j : Nat) (z : V), H2 a = some (.lst ys) ∧ flatV y = true ∧ ys.all flatV = true ∧
  ys[j]? = some z ∧ eqV z y = true ∧ (∀ (m : Nat) (z' : V), m < j → ys[m]? = some z' → eqV z' y = false) ∧ Q (.int (j : Nat)) H2
section
variable {X : Cx} {a b o e : Expr} {ta tb to te : TE} {pos : Pos}
theorem cl_lstK : CallR X (.type "list") (rLstK X.K) := clM call_list_of fun _ _ _ ⟨p, xs, e, h, q⟩ => ⟨p, xs, e, h, fun l hl => q l _ (.of hl)⟩
theorem pe_tupX {es : List Expr} {x1 : Nat} {t : TA} (h : PA X es t) : PE X (.Tuple es x1 pos) (xTup t) := peM (pe_tup (moA h)) fun σ H Q h => ⟨_, h, fun xs H1 ⟨hl, q⟩ => ⟨hl, fun p hp => q p _ (.of hp)⟩⟩
theorem pe_lstX {es : List Expr} {t : TA} (h : PA X es t) : PE X (.List es pos) (xLst t) := peM (pe_lst (moA h)) fun σ H Q h => ⟨_, h, fun xs H1 ⟨hl, q⟩ => ⟨hl, fun p hp => q p _ (.of hp)⟩⟩
theorem pe_dicX : PE X (.Dict [] [] pos) xDic := peM pe_dnewK fun σ H Q h p hp => h p _ (.of hp)
theorem op_addS : OpR X (binaryOp .Add) rAddS := op_add_str
theorem op_ltS : OpR X (compareOp .Lt) rLtS := op_lt_str
theorem op_inS1 : OpR X (compareOp .In) rInS1 := op_in_sign
theorem op_ninS : OpR X (compareOp .NotIn) rNinS1 := op_notIn_sign
theorem op_isN1 : OpR X (compareOp .Is) rIsN := op_isN
theorem op_notN1 : OpR X (compareOp .IsNot) rNotN := op_notN
theorem cl_lenQ : CallR X (.builtin "len") rLenQ := clM call_len_seq fun _ _ _ ⟨p, xs, e, h, q⟩ => ⟨p, xs, e, h.imp SqL.of SqT.of, q⟩
theorem ix_q : IxR X rXQ := ixM (IxR.or ix_list ix_tup) fun _ _ _ _ ⟨p, xs, i, v, e1, e2, h, e, q⟩ => h.elim (fun h => .inl ⟨p, xs, i, v, e1, e2, SqL.of h, e, q⟩) fun h => .inr ⟨p, xs, i, v, e1, e2, SqT.of h, e, q⟩
theorem pe_int_glob {x : Str} {i : Int} (hg : Gl X x) (hm : ∃ t, X.mg x = some (.int i t)) (hd : (x == ("__debug__" : Str)) = false := by decide) : PE X (.Name x pos) (tC (.int i)) := by
  obtain ⟨t, hm⟩ := hm
  exact pe_glob hg hm ⟨t, rfl⟩ hd
theorem pe_str_glob {x i : Str} (hg : Gl X x) (hm : ∃ t, X.mg x = some (.str i t)) (hd : (x == ("__debug__" : Str)) = false := by decide) : PE X (.Name x pos) (tC (.str i)) := by
  obtain ⟨t, hm⟩ := hm
  exact pe_glob hg hm ⟨t, rfl⟩ hd
theorem dp_ints {K : PySem.W.Frag} {H : Hp} : ∀ ns : List Int, DpAll K H (ns.map V.int) (ns.map PyData.int)
  | [] => .nil
  | _ :: r => .cons (.int _) (dp_ints r)
theorem lay_ints : ∀ ns : List Int, PyData.canLayAll0 (ns.map PyData.int) = true ∧ PyData.depthAll (ns.map PyData.int) = 0
  | [] => ⟨rfl, rfl⟩
  | n :: r => by
    obtain ⟨h1, h2⟩ := lay_ints r
    refine ⟨?_, ?_⟩
    · show (PyData.canLay0 (.int n) && PyData.canLayAll0 (r.map PyData.int)) = true
      rw [h1] <;> rfl
    · show max (PyData.depth (.int n)) (PyData.depthAll (r.map PyData.int)) = 0
      rw [h2] <;> rfl
theorem shaped_ints (ns : List Int) : SeqAt.shaped (.list (ns.map PyData.int)) = true := by
  obtain ⟨h1, h2⟩ := lay_ints ns
  unfold SeqAt.shaped
  have e1 : PyData.canLay0 (.list (ns.map PyData.int)) = true := by simp only [PyData.canLay0]; exact h1
  have e2 : PyData.depth (.list (ns.map PyData.int)) = 1 := by simp only [PyData.depth]; rw [h2]
  rw [e1, e2] <;> rfl
theorem op_eqE (hu : X.A.units + 64 < cLine) : OpR X (compareOp .Eq) rEqE := by
  refine opM (op_eqD hu) ?_
  rintro x y H Q ⟨p, q, ns, e1, e2, h1, h2, k⟩
  subst e1 e2
  refine ⟨.list (ns.map PyData.int), .list [], .lst (SqL.of h1) (dp_ints ns), .lst (SqL.of h2) .nil, shaped_ints ns, rfl, ?_⟩
  have e : PyData.eqv (.list (ns.map PyData.int)) (.list []) = ns.isEmpty := by cases ns <;> rfl
  rw [e]; exact k
variable {apos cpos : Pos}
theorem pe_app (ho : PE X o to) (he : PE X e te) (hbase : attributeBase o "append" X.env (eval o X.env) = eval o X.env := by rfl)
    (hfew : ((backTo cpos (starEach (e :: []) X.env)).all (fun x => !x.1) && (backToKw cpos (keywordEach [] X.env)).all (fun x => x.1.isSome)
      && decide ((e :: ([] : List Expr)).length + ([] : List Keyword).length + (if ([] : List Keyword).isEmpty then 0 else 1) < 30)) = true := by rfl)
    (hline : (apos.endLine == cpos.line) = true := by rfl) (hs : starEach (e :: []) X.env = (false, eval e X.env) :: starEach [] X.env := by rfl) (hplain : (backTo cpos (starEach ([] : List Expr) X.env)).any (·.1) = false := by rfl) :
    PE X (.Call (.Attribute o "append" apos) [e] [] cpos) (tApp to te) := by
  refine peM (pe_bm PySem.F.plainAttrs_list PySem.F.slot_list_append PySem.F.type_list_append mt_append (mo ho) (pa_cons (mo he) pa_nil hs) hbase hfew hline hs hplain) ?_
  intro σ H Q h
  refine ⟨_, h, ?_⟩
  rintro x H1 ⟨l, xs', rfl, h1, h⟩
  refine ⟨Or.inl ⟨rfl, _, SqL.of h1⟩, _, h, ?_⟩
  rintro y H2 ⟨xs, h2, hz, q⟩
  exact ⟨l, xs, y, rfl, rfl, h2, hz, q _ (.of h2 fun _ z => by cases z)⟩
theorem pe_popAt (ho : PE X o to) (he : PE X e te) (hbase : attributeBase o "pop" X.env (eval o X.env) = eval o X.env := by rfl)
    (hfew : ((backTo cpos (starEach (e :: []) X.env)).all (fun x => !x.1) && (backToKw cpos (keywordEach [] X.env)).all (fun x => x.1.isSome)
      && decide ((e :: ([] : List Expr)).length + ([] : List Keyword).length + (if ([] : List Keyword).isEmpty then 0 else 1) < 30)) = true := by rfl)
    (hline : (apos.endLine == cpos.line) = true := by rfl) (hs : starEach (e :: []) X.env = (false, eval e X.env) :: starEach [] X.env := by rfl) (hplain : (backTo cpos (starEach ([] : List Expr) X.env)).any (·.1) = false := by rfl) :
    PE X (.Call (.Attribute o "pop" apos) [e] [] cpos) (tPopAt to te) := by
  refine peM (pe_bm PySem.F.plainAttrs_list PySem.F.slot_list_pop PySem.F.type_list_pop mt_popAt (mo ho) (pa_cons (mo he) pa_nil hs) hbase hfew hline hs hplain) ?_
  intro σ H Q h
  refine ⟨_, h, ?_⟩
  rintro x H1 ⟨l, xs', rfl, h1, h⟩
  refine ⟨Or.inl ⟨rfl, _, SqL.of h1⟩, _, h, ?_⟩
  rintro y H2 ⟨x0, xs, rfl, h2, q⟩
  exact ⟨l, x0 :: xs, 0, 0, x0, rfl, rfl, h2, by decide, by decide, seqIndex_of (by decide) (by simp), rfl, q _ (.of h2 fun _ z => by cases z)⟩
theorem pe_index (ho : PE X o to) (he : PE X e te) (hbase : attributeBase o "index" X.env (eval o X.env) = eval o X.env := by rfl)
    (hfew : ((backTo cpos (starEach (e :: []) X.env)).all (fun x => !x.1) && (backToKw cpos (keywordEach [] X.env)).all (fun x => x.1.isSome)
      && decide ((e :: ([] : List Expr)).length + ([] : List Keyword).length + (if ([] : List Keyword).isEmpty then 0 else 1) < 30)) = true := by rfl)
    (hline : (apos.endLine == cpos.line) = true := by rfl) (hs : starEach (e :: []) X.env = (false, eval e X.env) :: starEach [] X.env := by rfl) (hplain : (backTo cpos (starEach ([] : List Expr) X.env)).any (·.1) = false := by rfl) :
    PE X (.Call (.Attribute o "index" apos) [e] [] cpos) (tIndex to te) := by
  refine peM (pe_bm PySem.F.plainAttrs_list PySem.F.slot_list_index PySem.F.type_list_index mt_index (mo ho) (pa_cons (mo he) pa_nil hs) hbase hfew hline hs hplain) ?_
  intro σ H Q h
  refine ⟨_, h, ?_⟩
  rintro x H1 ⟨a, ys', rfl, h1, h⟩
  refine ⟨Or.inl ⟨rfl, _, SqL.of h1⟩, _, h, ?_⟩
  rintro y H2 ⟨ys, j, z, h2, f1, f2, hj, hz, hno, q⟩
  exact ⟨a, ys, y, j, z, rfl, rfl, SqL.of h2, f1, f2, hj, hz, hno, q⟩
theorem pe_popL (ho : PE X o to) (hbase : attributeBase o "pop" X.env (eval o X.env) = eval o X.env := by rfl) (hline : (apos.endLine == cpos.line) = true := by rfl) : PE X (.Call (.Attribute o "pop" apos) [] [] cpos) (tPopL to) := by
  refine peM (pe_bm0 PySem.F.plainAttrs_list PySem.F.slot_list_pop PySem.F.type_list_pop mt_pop (mo ho) hbase hline) ?_
  intro σ H Q h
  refine ⟨_, h, ?_⟩
  rintro x H1 ⟨l, xs, y, rfl, h1, hy, q⟩
  exact ⟨Or.inl ⟨rfl, _, SqL.of h1⟩, l, xs, y, rfl, rfl, h1, hy, q _ (.of h1 fun _ z => by cases z)⟩
theorem pe_joinL (ho : PE X o to) (he : PE X e te) (hs : starEach [e] X.env = [(false, eval e X.env)] := by rfl) (hbase : attributeBase o "join" X.env (eval o X.env) = eval o X.env := by rfl) (hline : (apos.endLine == cpos.line) = true := by rfl) :
    PE X (.Call (.Attribute o "join" apos) [e] [] cpos) (tJoinL to te) := by
  refine peM (pe_join (mo ho) (mo he) hs hbase hline) ?_
  intro σ H Q h
  refine ⟨_, h, ?_⟩
  rintro x H1 ⟨a, rfl, h⟩
  refine ⟨⟨a, rfl⟩, _, h, ?_⟩
  rintro y H2 ⟨p, ys, rfl, h2, hz, q⟩
  exact ⟨a, p, ys, rfl, rfl, .inl (SqL.of h2), hz, q⟩
end

/-! ### frames: what stands outside S stands on; tuples stand on -/
structure Fr (S : List Addr) (H H' : Hp) : Prop where
  keep : ∀ b o, H b = some o → b ∉ S → H' b = some o
  tups : ∀ b xs, H b = some (.tup xs) → H' b = some (.tup xs)
section
variable {S S' : List Addr} {H H1 H2 : Hp} {p : Addr} {o : HO}
theorem Fr.refl (S : List Addr) (H : Hp) : Fr S H H := ⟨fun _ _ h _ => h, fun _ _ h => h⟩
theorem Fr.trans (a : Fr S H H1) (b : Fr S H1 H2) : Fr S H H2 := ⟨fun c o h hc => b.keep c o (a.keep c o h hc) hc, fun c xs h => b.tups c xs (a.tups c xs h)⟩
theorem Fr.mono (a : Fr S H H1) (h : ∀ b ∈ S, b ∈ S') : Fr S' H H1 := ⟨fun c o e hc => a.keep c o e fun z => hc (h c z), a.tups⟩
theorem Fr.sub0 (a : Fr [] H H1) : Fr S H H1 := a.mono (by simp)
theorem Fr.new (h : H p = none) : Fr S H (upd H p o) := ⟨fun b u e _ => by rw [upd_ne (ne_of_none e h)]; exact e, fun b xs e => by rw [upd_ne (ne_of_none e h)]; exact e⟩
theorem Fr.mut {u : HO} (h : H p = some u) (hp : p ∈ S) (hu : ∀ xs, u ≠ .tup xs) : Fr S H (upd H p o) := by
  refine ⟨fun b z e hb => ?_, fun b xs e => ?_⟩
  · rw [upd_ne fun e' => hb (by rw [e']; exact hp)]; exact e
  · rw [upd_ne fun e' => ?_]; exact e
    rw [e', h] at e
    exact hu xs (Option.some.inj e)
theorem Al.fr {H' : Hp} (a : Al H p o H') : Fr S H H' := ⟨fun _ _ e _ => a.k e, fun _ _ e => a.k e⟩
theorem Mu.fr {H' : Hp} (a : Mu H p o H') (hp : p ∈ S) : Fr S H H' :=
  ⟨fun _ _ e hb => a.k e fun z => hb (by rw [z]; exact hp), fun b xs e => a.k e fun z => a.nt xs (by rw [← z]; exact e)⟩
theorem Fr.al {H' : Hp} (f : Fr S H H1) (a : Al H1 p o H') : Fr S H H' := f.trans a.fr
theorem Fr.mu {H' : Hp} (f : Fr S H H1) (a : Mu H1 p o H') (hp : p ∈ S) : Fr S H H' := f.trans (a.fr hp)
theorem Fr.free (a : Fr S H H1) (h : H1 p = none) (hp : p ∉ S) : H p = none := by
  cases e : H p with
  | none => rfl
  | some u => rw [a.keep p u e hp] at h; cases h
/-- an address that H does not know may leave S -/
theorem Fr.drop (a : Fr (p :: S) H H1) (h : H p = none) : Fr S H H1 := ⟨fun b u e hb => a.keep b u e (by
  intro z
  rcases List.mem_cons.mp z with z | z
  · rw [z, h] at e; cases e
  · exact hb z), a.tups⟩
theorem Fr.l {xs : List V} {a : Addr} (f : Fr S H H1) (h : H a = some (.lst xs)) (ha : a ∉ S) : H1 a = some (.lst xs) := f.keep a _ h ha
end

/-! ### data: values of any depth -/
mutual
inductive Rp (H : Hp) : V → PyData → Prop
  | non : Rp H .non .none
  | bl (b : Bool) : Rp H (.bl b) (.bool b)
  | int (i : Int) : Rp H (.int i) (.int i)
  | str (x : Str) : Rp H (.str x) (.str x)
  | lst {a : Addr} {xs : List V} {ds : List PyData} : H a = some (.lst xs) → RpAll H xs ds → Rp H (.ref a) (.list ds)
  | tup {a : Addr} {xs : List V} {ds : List PyData} : H a = some (.tup xs) → RpAll H xs ds → Rp H (.ref a) (.tuple ds)
inductive RpAll (H : Hp) : List V → List PyData → Prop
  | nil : RpAll H [] []
  | cons {v : V} {vs : List V} {d : PyData} {ds : List PyData} : Rp H v d → RpAll H vs ds → RpAll H (v :: vs) (d :: ds)
end
theorem RpAll.length {H : Hp} : ∀ {vs : List V} {ds : List PyData}, RpAll H vs ds → vs.length = ds.length
  | _, _, .nil => rfl
  | _, _, .cons _ r => congrArg Nat.succ r.length
theorem RpAll.get {H : Hp} : ∀ {vs : List V} {ds : List PyData} {i : Nat} {d : PyData}, RpAll H vs ds → ds[i]? = some d → ∃ v, vs[i]? = some v ∧ Rp H v d
  | _, _, _, _, .nil, e => by simp at e
  | _, _, 0, _, .cons h _, e => by
    have e' := Option.some.inj e
    subst e'
    exact ⟨_, rfl, h⟩
  | _, _, i + 1, d, .cons _ r, e => r.get (i := i) (d := d) e

/-! ### the box of the law: a list of ints and a number -/
def BoxAt (H : Hp) (b l : Addr) : Prop := b ≠ l ∧ ∃ (ns : List Int) (s : Int), H b = some (.lst [.ref l, .int s]) ∧ H l = some (.lst (ns.map V.int)) ∧ 0 ≤ s ∧ s < 2147483647
theorem BoxAt.keep {H H1 : Hp} {b l : Addr} (B : BoxAt H b l) (f : Fr [] H H1) : BoxAt H1 b l := by
  obtain ⟨ne, ns, s, h1, h2, h3⟩ := B
  exact ⟨ne, ns, s, f.keep _ _ h1 (by simp), f.keep _ _ h2 (by simp), h3⟩

/-! ### loops and comprehensions -/
theorem st_seq {t u : TS} {D : Ends} {σ : L2.St} {H : Hp} (h : t { D with nx := u D } σ H) : tSeq t u D σ H := h
section
variable {ta : TA} {te tl : TE} {g : TG} {tt : TT} {tb : TS} {vs : List Nat} {j : Nat} {σ : L2.St} {H : Hp} {Q : VK} {D : Ends} {K : PySem.W.Frag}
/-- a turn of a comprehension -/
def LcTurn (g : TG) (tt : TT) (te : TE) (vs : List Nat) (σ : L2.St) (L : Addr) (Nx : Hp → Prop) (x : V) (H' : Hp) : Prop := g x (wipe σ vs) H' fun σ2 H2 => wipe σ2 vs = wipe σ vs ∧ tt σ2 H2 fun b H3 =>
  if b = true then te σ2 H3 fun y H4 => ∃ acc, H4 L = some (.lst acc) ∧ acc.length < sizeLine ∧ Nx (upd H4 L (.lst (acc ++ [y]))) else Nx H3
theorem lcR {n : Int} (hv : ∀ R : List V → Hp → Prop, R [.int n] H → ta σ H R) (b0 : 0 ≤ n) (b1 : n < 4611686018427387904)
    (h : ∀ L, H L = none → ∃ Pv : Nat → Hp → Prop, Pv 0 (upd H L (.lst [])) ∧ (∀ (i : Nat) Hc, (i : Int) < n → Pv i Hc → LcTurn g tt te vs σ L (Pv (i + 1)) (.int (i : Int)) Hc) ∧ ∀ Hc, Pv n.toNat Hc → Q (.ref L) Hc) :
    tLc (iRng1 ta) g tt te vs σ H Q := by
  refine hv _ ⟨n, rfl, by omega, by omega, fun L hL => ?_⟩
  obtain ⟨Pv, h0, hs, hd⟩ := h L hL
  refine lc_it walk_range Pv h0 (fun _ _ _ _ => trivial) (fun i x H1 H2 hi p y => ?_) hd
  obtain ⟨e1, e2⟩ := y
  have e2' : x = .int (0 + (i : Int)) := e2
  rw [Int.zero_add] at e2'
  subst e1 e2'
  exact hs i _ (by omega) p
theorem lcS {z : Str} (hv : ∀ R : VK, R (.str z) H → te σ H R) {te' : TE}
    (h : ∀ L, H L = none → ∃ Pv : Nat → Hp → Prop, Pv 0 (upd H L (.lst [])) ∧ (∀ (i : Nat) c Hc, z.cps.toList[i]? = some c → Pv i Hc → LcTurn g tt te' vs σ L (Pv (i + 1)) (.str ⟨#[c]⟩) Hc) ∧ ∀ Hc, Pv z.cps.toList.length Hc → Q (.ref L) Hc) :
    tLc (iStr te) g tt te' vs σ H Q := by
  refine hv _ ⟨z, rfl, fun L hL => ?_⟩
  obtain ⟨Pv, h0, hs, hd⟩ := h L hL
  refine lc_it walk_str Pv h0 (fun _ _ _ _ => trivial) (fun i x H1 H2 hi p y => ?_) (by simpa using hd)
  obtain ⟨e1, c, e2, e3⟩ := y
  subst e1 e3
  exact hs i c _ (by simpa using e2) p
theorem forR {n : Int} (hv : ∀ R : List V → Hp → Prop, R [.int n] H → ta σ H R) (b0 : 0 ≤ n) (b1 : n < 4611686018427387904) (Pv : Nat → L2.St → Hp → Prop) (h0 : Pv 0 σ H)
    (hs : ∀ (i : Nat) σ' H', (i : Int) < n → Pv i σ' H' → tb { D with nx := Pv (i + 1), ct := Pv (i + 1), bk := D.nx } (σ'.set j (some (.int (i : Int)))) H') (hd : ∀ σ' H', Pv n.toNat σ' H' → D.nx σ' H') :
    tFor (iRng1 ta) (gName j) tb D σ H := by
  refine hv _ ⟨n, rfl, by omega, by omega, for_it walk_range Pv h0 (fun _ _ _ _ _ => trivial) (fun i x σ1 H1 H2 hi p y => ?_) hd⟩
  obtain ⟨e1, e2⟩ := y
  have e2' : x = .int (0 + (i : Int)) := e2
  rw [Int.zero_add] at e2'
  subst e1 e2'
  exact hs i σ1 _ (by omega) p
theorem forT {a : Addr} {xs : List V} (hv : ∀ R : VK, R (.ref a) H → tl σ H R) (hx : H a = some (.tup xs)) (Pv : Nat → L2.St → Hp → Prop) (h0 : Pv 0 σ H) (hl : ∀ i σ' H', Pv i σ' H' → H' a = some (.tup xs))
    (hs : ∀ (i : Nat) x σ' H', xs[i]? = some x → Pv i σ' H' → tb { D with nx := Pv (i + 1), ct := Pv (i + 1), bk := D.nx } (σ'.set j (some x)) H') (hd : ∀ σ' H', Pv xs.length σ' H' → D.nx σ' H') :
    tFor (iTup K tl) (gName j) tb D σ H := by
  refine hv _ ⟨a, rfl, ⟨xs, SqT.of hx⟩, for_it walk_tup Pv h0 (fun i σ' H' _ p => SqT.of (hl i σ' H' p)) (fun i x σ1 H1 H2 hi p y => ?_) hd⟩
  obtain ⟨e1, e2⟩ := y
  subst e1
  exact hs i x σ1 _ e2 p
theorem forS {z : Str} (hv : ∀ R : VK, R (.str z) H → te σ H R) (Pv : Nat → L2.St → Hp → Prop) (h0 : Pv 0 σ H)
    (hs : ∀ (i : Nat) c σ' H', z.cps.toList[i]? = some c → Pv i σ' H' → tb { D with nx := Pv (i + 1), ct := Pv (i + 1), bk := D.nx } (σ'.set j (some (.str ⟨#[c]⟩))) H') (hd : ∀ σ' H', Pv z.cps.toList.length σ' H' → D.nx σ' H') :
    tFor (iStr te) (gName j) tb D σ H := by
  refine hv _ ⟨z, rfl, for_it walk_str Pv h0 (fun _ _ _ _ _ => trivial) (fun i x σ1 H1 H2 hi p y => ?_) (by simpa using hd)⟩
  obtain ⟨e1, c, e2, e3⟩ := y
  subst e1 e3
  exact hs i c σ1 _ (by simpa using e2) p
end
/-- a new list that a frame does not see may change -/
theorem Fr.muN {S : List Addr} {H H1 H2 : Hp} {p : Addr} {o : HO} (f : Fr S H H1) (a : Mu H1 p o H2) (h : H p = none) : Fr S H H2 :=
  Fr.drop ((f.mono fun _ z => List.mem_cons_of_mem _ z).mu a (List.mem_cons_self ..)) h

/-! ### values of programs -/
/-- a number or a text -/
inductive Vl where
  | n (i : Int)
  | t (z : Str)
  deriving DecidableEq
def Vl.v : Vl → V
  | .n i => .int i
  | .t z => .str z
def Txt12 (z : Str) : Prop := z.cps.toList.length ≤ 12 ∧ ∀ c ∈ z.cps.toList, 97 ≤ c ∧ c < 123
def Vl.ok : Vl → Prop
  | .n i => 0 ≤ i ∧ i < 10007
  | .t z => Txt12 z
theorem Vl.v_inj {x y : Vl} : (x.v = y.v) = (x = y) := by
  refine propext ⟨fun e => ?_, fun e => by rw [e]⟩
  cases x <;> cases y <;> simp_all [Vl.v]
/-- the four signs -/
inductive Sg where
  | add | sub | less | same
  deriving DecidableEq
def Sg.ix : Sg → Nat
  | .add => 3
  | .sub => 4
  | .less => 5
  | .same => 6
def Sg.s (s : Sg) : Str := wd s.ix
def Vl.kd : Vl → Str
  | .n _ => wd 23
  | .t _ => wd 24
def Vl.so : Vl → Bool
  | .n i => !decide (i = 0)
  | .t z => !decide (z = ("" : Str))
def cut12 (a b : Str) : Str := cutS (a ++ b) none (some 12)
def subT (a b : Str) : Str := ⟨(a.cps.toList.filter fun c => !decide (c ∈ b.cps.toList)).toArray⟩
def b2n (b : Bool) : Int := if b then 1 else 0
/-- what a sign makes -/
def wk : Sg → Vl → Vl → Option Vl
  | .same, x, y => some (.n (b2n (decide (x = y))))
  | .add, .n i, .n j => some (.n ((i + j) % 10007))
  | .sub, .n i, .n j => some (.n ((i - j) % 10007))
  | .less, .n i, .n j => some (.n (b2n (decide (i < j))))
  | .add, .t a, .t b => some (.t (cut12 a b))
  | .sub, .t a, .t b => some (.t (subT a b))
  | .less, .t a, .t b => some (.n (b2n (decide (a.cps.toList < b.cps.toList))))
  | _, _, _ => none
def ov : Option Vl → V
  | none => .non
  | some x => x.v
/-! ### promises -/
def sp_L_take : Sp := fun vs H Q _ => ∃ (b l : Addr) (m : Int), vs = [.ref b, .int m] ∧ BoxAt H b l ∧ 0 < m ∧ m < 1073741824 ∧ ∀ r H', 0 ≤ r → r < m → BoxAt H' b l → Fr [b, l] H H' → Q (.int r) H'
theorem len_L_take (vs : List V) (H : Hp) (Q : VK) (E : XK) (h : sp_L_take vs H Q E) : vs.length = 2 := by
  obtain ⟨_, _, _, rfl, _⟩ := h
  rfl
def sp_L_script (K : PySem.W.Frag) : Sp := fun vs H Q _ => ∃ (a : Addr) (ns : List Int), vs = [.ref a] ∧ SqL K H a (ns.map V.int) ∧ ns.length ≤ 63 ∧ ∀ b l H', BoxAt H' b l → Fr [] H H' → Q (.ref b) H'
theorem len_L_script {K : PySem.W.Frag} (vs : List V) (H : Hp) (Q : VK) (E : XK) (h : sp_L_script K vs H Q E) : vs.length = 1 := by
  obtain ⟨_, _, rfl, _⟩ := h
  rfl
def sp_L_text : Sp := fun vs H Q _ => ∃ (b l : Addr), vs = [.ref b] ∧ BoxAt H b l ∧ ∀ z H', Txt12 z → BoxAt H' b l → Fr [b, l] H H' → Q (.str z) H'
theorem len_L_text (vs : List V) (H : Hp) (Q : VK) (E : XK) (h : sp_L_text vs H Q E) : vs.length = 1 := by
  obtain ⟨_, _, rfl, _⟩ := h
  rfl
def sp_L_value : Sp := fun vs H Q _ => ∃ (b l : Addr), vs = [.ref b] ∧ BoxAt H b l ∧ ∀ (x : Vl) H', x.ok → BoxAt H' b l → Fr [b, l] H H' → Q x.v H'
theorem len_L_value (vs : List V) (H : Hp) (Q : VK) (E : XK) (h : sp_L_value vs H Q E) : vs.length = 1 := by
  obtain ⟨_, _, rfl, _⟩ := h
  rfl
def sp_kind_of : Sp := fun vs H Q _ => ∃ x : Vl, vs = [x.v] ∧ Q (.str x.kd) H
theorem len_kind_of (vs : List V) (H : Hp) (Q : VK) (E : XK) (h : sp_kind_of vs H Q E) : vs.length = 1 := by
  obtain ⟨_, rfl, _⟩ := h
  rfl
def sp_is_so : Sp := fun vs H Q _ => ∃ x : Vl, vs = [x.v] ∧ ∀ H', Fr [] H H' → Q (.bl x.so) H'
theorem len_is_so (vs : List V) (H : Hp) (Q : VK) (E : XK) (h : sp_is_so vs H Q E) : vs.length = 1 := by
  obtain ⟨_, rfl, _⟩ := h
  rfl
abbrev sp_L_is_so : Sp := sp_is_so
theorem len_L_is_so (vs : List V) (H : Hp) (Q : VK) (E : XK) (h : sp_L_is_so vs H Q E) : vs.length = 1 := len_is_so vs H Q E h
def sp_worked : Sp := fun vs H Q _ => ∃ (s : Sg) (x y : Vl), vs = [.str s.s, x.v, y.v] ∧ x.ok ∧ y.ok ∧ ∀ H', Fr [] H H' → Q (ov (wk s x y)) H'
theorem len_worked (vs : List V) (H : Hp) (Q : VK) (E : XK) (h : sp_worked vs H Q E) : vs.length = 3 := by
  obtain ⟨_, _, _, rfl, _⟩ := h
  rfl
abbrev sp_L_worked : Sp := sp_worked
theorem len_L_worked (vs : List V) (H : Hp) (Q : VK) (E : XK) (h : sp_L_worked vs H Q E) : vs.length = 3 := len_worked vs H Q E h
def sp_of_numbers : Sp := fun vs H Q _ => ∃ (s : Sg) (i j : Int), vs = [.str s.s, .int i, .int j] ∧ s ≠ .same ∧ Q (ov (wk s (.n i) (.n j))) H
theorem len_of_numbers (vs : List V) (H : Hp) (Q : VK) (E : XK) (h : sp_of_numbers vs H Q E) : vs.length = 3 := by
  obtain ⟨_, _, _, rfl, _⟩ := h
  rfl
def sp_of_texts : Sp := fun vs H Q _ => ∃ (s : Sg) (a b : Str), vs = [.str s.s, .str a, .str b] ∧ s ≠ .same ∧ Txt12 a ∧ Txt12 b ∧ ∀ H', Fr [] H H' → Q (ov (wk s (.t a) (.t b))) H'
theorem len_of_texts (vs : List V) (H : Hp) (Q : VK) (E : XK) (h : sp_of_texts vs H Q E) : vs.length = 3 := by
  obtain ⟨_, _, _, rfl, _⟩ := h
  rfl
abbrev sp_L_of_texts : Sp := sp_of_texts
theorem len_L_of_texts (vs : List V) (H : Hp) (Q : VK) (E : XK) (h : sp_L_of_texts vs H Q E) : vs.length = 3 := len_of_texts vs H Q E h
/-- both tell the same data -/
def sp_L_alike (n : Nat) : Sp := fun vs H Q _ => ∃ (x y : V) (d : PyData), vs = [x, y] ∧ Rp H x d ∧ Rp H y d ∧ d.depth < n ∧ Q (.bl true) H
theorem len_L_alike {n : Nat} (vs : List V) (H : Hp) (Q : VK) (E : XK) (h : sp_L_alike n vs H Q E) : vs.length = 2 := by
  obtain ⟨_, _, _, rfl, _⟩ := h
  rfl
theorem no_L_alike (vs : List V) (H : Hp) (Q : VK) (E : XK) : ¬ sp_L_alike 0 vs H Q E := fun ⟨_, _, _, _, _, _, h, _⟩ => absurd h (Nat.not_lt_zero _)

/-! ### data that never changes -/
mutual
def Tp (H : Hp) : PyData → V → Prop
  | .none, v => v = .non
  | .bool b, v => v = .bl b
  | .int i, v => v = .int i
  | .str x, v => v = .str x
  | .tuple ds, v => ∃ a xs, v = .ref a ∧ H a = some (.tup xs) ∧ TpL H ds xs
  | .list _, _ => False
  | .dict _, _ => False
def TpL (H : Hp) : List PyData → List V → Prop
  | [], xs => xs = []
  | d :: ds, xs => ∃ v r, xs = v :: r ∧ Tp H d v ∧ TpL H ds r
end
def Tups (H H' : Hp) : Prop := ∀ b xs, H b = some (.tup xs) → H' b = some (.tup xs)
mutual
theorem Tp.tups {H H' : Hp} (t : Tups H H') : ∀ {d : PyData} {v : V}, Tp H d v → Tp H' d v
  | .none, _, h => by simpa only [Tp] using h
  | .bool _, _, h => by simpa only [Tp] using h
  | .int _, _, h => by simpa only [Tp] using h
  | .str _, _, h => by simpa only [Tp] using h
  | .tuple ds, v, h => by
    simp only [Tp] at h ⊢
    obtain ⟨a, xs, e, ha, hx⟩ := h
    exact ⟨a, xs, e, t _ _ ha, TpL.tups t hx⟩
  | .list _, _, h => by simp only [Tp] at h
  | .dict _, _, h => by simp only [Tp] at h
theorem TpL.tups {H H' : Hp} (t : Tups H H') : ∀ {ds : List PyData} {xs : List V}, TpL H ds xs → TpL H' ds xs
  | [], _, h => by simpa only [TpL] using h
  | d :: ds, xs, h => by
    simp only [TpL] at h ⊢
    obtain ⟨v, r, e, h1, h2⟩ := h
    exact ⟨v, r, e, Tp.tups t h1, TpL.tups t h2⟩
end
section
variable {H H' : Hp} {S : List Addr} {d : PyData} {v : V} {ds es : List PyData} {xs ys : List V} {p : Addr} {o : HO}
theorem Fr.tu (f : Fr S H H') : Tups H H' := f.tups
theorem Al.tu (a : Al H p o H') : Tups H H' := fun _ _ h => a.k h
theorem Mu.tu (a : Mu H p o H') : Tups H H' := (a.fr (S := [p]) (by simp)).tups
theorem Tups.refl (H : Hp) : Tups H H := fun _ _ h => h
theorem Tups.trans {H1 : Hp} (a : Tups H H1) (b : Tups H1 H') : Tups H H' := fun _ _ h => b _ _ (a _ _ h)
theorem tpl_nil : TpL H [] xs = (xs = []) := by simp only [TpL]
theorem tpl_cons : TpL H (d :: ds) xs = ∃ v r, xs = v :: r ∧ Tp H d v ∧ TpL H ds r := by simp only [TpL]
theorem tp_tup : Tp H (.tuple ds) v = ∃ a xs, v = .ref a ∧ H a = some (.tup xs) ∧ TpL H ds xs := by simp only [Tp]
theorem tp_int {i : Int} : Tp H (.int i) v = (v = .int i) := by simp only [Tp]
theorem tp_str {i : Str} : Tp H (.str i) v = (v = .str i) := by simp only [Tp]
theorem tp_non : Tp H .none v = (v = .non) := by simp only [Tp]
theorem tp_bl {i : Bool} : Tp H (.bool i) v = (v = .bl i) := by simp only [Tp]
theorem Tp.int (i : Int) : Tp H (.int i) (.int i) := by simp only [Tp]
theorem Tp.str (i : Str) : Tp H (.str i) (.str i) := by simp only [Tp]
theorem Tp.tup {a : Addr} (h : H a = some (.tup xs)) (hx : TpL H ds xs) : Tp H (.tuple ds) (.ref a) := by rw [tp_tup]; exact ⟨a, xs, rfl, h, hx⟩
theorem TpL.nil : TpL H [] [] := by simp only [TpL]
theorem TpL.cons (h : Tp H d v) (hr : TpL H ds xs) : TpL H (d :: ds) (v :: xs) := by rw [tpl_cons]; exact ⟨v, xs, rfl, h, hr⟩
theorem TpL.length : ∀ {ds : List PyData} {xs : List V}, TpL H ds xs → xs.length = ds.length
  | [], _, h => by rw [tpl_nil] at h; rw [h]; rfl
  | _ :: _, _, h => by
    rw [tpl_cons] at h
    obtain ⟨v, r, rfl, _, h⟩ := h
    rw [List.length_cons, List.length_cons, h.length]
theorem TpL.append : ∀ {ds : List PyData} {xs : List V}, TpL H ds xs → TpL H es ys → TpL H (ds ++ es) (xs ++ ys)
  | [], _, h, h' => by rw [tpl_nil] at h; rw [h]; exact h'
  | _ :: _, _, h, h' => by
    rw [tpl_cons] at h
    obtain ⟨v, r, rfl, h1, h⟩ := h
    exact .cons h1 (h.append h')
theorem TpL.get : ∀ {ds : List PyData} {xs : List V} {i : Nat} {d : PyData}, TpL H ds xs → ds[i]? = some d → ∃ v, xs[i]? = some v ∧ Tp H d v
  | [], _, _, _, _, e => by simp at e
  | _ :: _, _, 0, _, h, e => by
    rw [tpl_cons] at h
    obtain ⟨v, r, rfl, h1, h⟩ := h
    cases e
    exact ⟨v, rfl, h1⟩
  | _ :: _, _, i + 1, d, h, e => by
    rw [tpl_cons] at h
    obtain ⟨v, r, rfl, h1, h⟩ := h
    exact h.get (i := i) (d := d) e
theorem TpL.get' : ∀ {ds : List PyData} {xs : List V} {i : Nat} {v : V}, TpL H ds xs → xs[i]? = some v → ∃ d, ds[i]? = some d ∧ Tp H d v
  | [], _, _, _, h, e => by rw [tpl_nil] at h; subst h; simp at e
  | _ :: _, _, 0, _, h, e => by
    rw [tpl_cons] at h
    obtain ⟨v, r, rfl, h1, h⟩ := h
    cases e
    exact ⟨_, rfl, h1⟩
  | _ :: _, _, i + 1, d, h, e => by
    rw [tpl_cons] at h
    obtain ⟨v, r, rfl, h1, h⟩ := h
    exact h.get' (i := i) e
theorem TpL.set : ∀ {ds : List PyData} {xs : List V} (i : Nat), TpL H ds xs → Tp H d v → TpL H (ds.set i d) (xs.set i v)
  | [], _, _, h, _ => by rw [tpl_nil] at h; subst h; exact .nil
  | _ :: _, _, 0, h, h' => by
    rw [tpl_cons] at h
    obtain ⟨v, r, rfl, h1, h⟩ := h
    exact .cons h' h
  | _ :: _, _, i + 1, h, h' => by
    rw [tpl_cons] at h
    obtain ⟨v, r, rfl, h1, h⟩ := h
    exact .cons h1 (h.set i h')
theorem TpL.take : ∀ {ds : List PyData} {xs : List V} (i : Nat), TpL H ds xs → TpL H (ds.take i) (xs.take i)
  | [], _, _, h => by rw [tpl_nil] at h; subst h; simp only [List.take_nil]; exact .nil
  | _ :: _, _, 0, h => .nil
  | _ :: _, _, i + 1, h => by
    rw [tpl_cons] at h
    obtain ⟨v, r, rfl, h1, h⟩ := h
    exact .cons h1 (h.take i)
theorem TpL.drop : ∀ {ds : List PyData} {xs : List V} (i : Nat), TpL H ds xs → TpL H (ds.drop i) (xs.drop i)
  | [], _, _, h => by rw [tpl_nil] at h; subst h; simp only [List.drop_nil]; exact .nil
  | _ :: _, _, 0, h => h
  | _ :: _, _, i + 1, h => by
    rw [tpl_cons] at h
    obtain ⟨v, r, rfl, h1, h⟩ := h
    exact h.drop i
theorem TpL.single (h : Tp H d v) : TpL H [d] [v] := .cons h .nil
theorem TpL.snoc (h : TpL H ds xs) (h' : Tp H d v) : TpL H (ds ++ [d]) (xs ++ [v]) := h.append (.single h')
end
mutual
theorem Tp.rp {H : Hp} : ∀ {d : PyData} {v : V}, Tp H d v → Rp H v d
  | .none, _, h => by rw [tp_non] at h; subst h; exact .non
  | .bool _, _, h => by rw [tp_bl] at h; subst h; exact .bl _
  | .int _, _, h => by rw [tp_int] at h; subst h; exact .int _
  | .str _, _, h => by rw [tp_str] at h; subst h; exact .str _
  | .tuple ds, v, h => by
    rw [tp_tup] at h
    obtain ⟨a, xs, rfl, ha, hx⟩ := h
    exact .tup ha (TpL.rp hx)
  | .list _, _, h => by simp only [Tp] at h
  | .dict _, _, h => by simp only [Tp] at h
theorem TpL.rp {H : Hp} : ∀ {ds : List PyData} {xs : List V}, TpL H ds xs → RpAll H xs ds
  | [], _, h => by rw [tpl_nil] at h; subst h; exact .nil
  | d :: ds, xs, h => by
    rw [tpl_cons] at h
    obtain ⟨v, r, rfl, h1, h2⟩ := h
    exact .cons (Tp.rp h1) (TpL.rp h2)
end

/-! ### programs -/
def Nm8 (x : Str) : Prop := ∃ i, i < 8 ∧ x = ⟨#[97 + i]⟩
inductive Ex where
  | num (n : Int) | text (z : Str) | name (x : Str) | op (s : Sg) (a b : Ex)
def Ex.d : Ex → PyData
  | .num n => .tuple [.str (wd 0), .int n]
  | .text z => .tuple [.str (wd 1), .str z]
  | .name x => .tuple [.str (wd 2), .str x]
  | .op s a b => .tuple [.str s.s, a.d, b.d]
def Ex.ok : Ex → Prop
  | .num n => 0 ≤ n ∧ n < 10000
  | .text z => Txt12 z
  | .name x => Nm8 x
  | .op _ a b => a.ok ∧ b.ok
def Ex.dep : Ex → Nat
  | .op _ a b => 1 + max a.dep b.dep
  | _ => 1
inductive Rw where
  | num (n : Int) | text (z : Str) | name (x : Str) | op (s : Sg) | say | set (x : Str) | unless (q : Nat) | go (z : Nat) | top | fin
def Rw.d : Rw → PyData
  | .num n => .tuple [.str (wd 0), .int n]
  | .text z => .tuple [.str (wd 1), .str z]
  | .name x => .tuple [.str (wd 2), .str x]
  | .op s => .tuple [.str s.s]
  | .say => .tuple [.str (wd 7)]
  | .set x => .tuple [.str (wd 8), .str x]
  | .unless q => .tuple [.str (wd 9), .int (q : Nat)]
  | .go z => .tuple [.str (wd 10), .int (z : Nat)]
  | .top => .tuple [.str (wd 11)]
  | .fin => .tuple [.str (wd 12)]
def Ex.code : Ex → List Rw
  | .num n => [.num n]
  | .text z => [.text z]
  | .name x => [.name x]
  | .op s a b => a.code ++ b.code ++ [.op s]
inductive Sm where
  | say (e : Ex) | set (x : Str) (e : Ex) | ite (e : Ex) (s t : List Sm) | whl (e : Ex) (s : List Sm)
mutual
def Sm.d : Sm → PyData
  | .say e => .tuple [.str (wd 7), e.d]
  | .set x e => .tuple [.str (wd 8), .str x, e.d]
  | .ite e s t => .tuple [.str (wd 14), e.d, .tuple [.str (wd 13), .tuple (dL s)], .tuple [.str (wd 13), .tuple (dL t)]]
  | .whl e s => .tuple [.str (wd 15), e.d, .tuple [.str (wd 13), .tuple (dL s)]]
def dL : List Sm → List PyData
  | [] => []
  | a :: r => a.d :: dL r
end
def rowD (l : List Sm) : PyData := .tuple [.str (wd 13), .tuple (dL l)]
mutual
/-- its expressions are at most m deep -/
def Sm.ok (m : Nat) : Sm → Prop
  | .say e => e.ok ∧ e.dep ≤ m
  | .set x e => Nm8 x ∧ e.ok ∧ e.dep ≤ m
  | .ite e s t => (e.ok ∧ e.dep ≤ m) ∧ okL m s ∧ okL m t
  | .whl e s => (e.ok ∧ e.dep ≤ m) ∧ okL m s
def okL (m : Nat) : List Sm → Prop
  | [] => True
  | a :: r => a.ok m ∧ okL m r
end
mutual
/-- how many calls deep a walk goes -/
def Sm.dp : Sm → Nat
  | .say _ => 1
  | .set _ _ => 1
  | .ite _ s t => 1 + max (dpL s) (dpL t)
  | .whl _ s => 1 + dpL s
def dpL : List Sm → Nat
  | [] => 1
  | a :: r => max (1 + a.dp) (dpL r)
end
mutual
/-- how many statements -/
def Sm.cnt : Sm → Nat
  | .say _ => 1
  | .set _ _ => 1
  | .ite _ s t => 1 + cntL s + cntL t
  | .whl _ s => 1 + cntL s
def cntL : List Sm → Nat
  | [] => 0
  | a :: r => a.cnt + cntL r
end
mutual
def Sm.code : Sm → Nat → List Rw
  | .say e, _ => e.code ++ [.say]
  | .set x e, _ => e.code ++ [.set x]
  | .ite e s t, b => e.code ++ [.unless (b + e.code.length + (codeL s (b + e.code.length + 1)).length + 2)] ++ codeL s (b + e.code.length + 1) ++
      [.go (b + e.code.length + (codeL s (b + e.code.length + 1)).length + 2 + (codeL t (b + e.code.length + (codeL s (b + e.code.length + 1)).length + 2)).length)] ++
      codeL t (b + e.code.length + (codeL s (b + e.code.length + 1)).length + 2)
  | .whl e s, b => [.top] ++ e.code ++ [.unless (b + e.code.length + (codeL s (b + e.code.length + 2)).length + 3)] ++ codeL s (b + e.code.length + 2) ++ [.go b]
def codeL : List Sm → Nat → List Rw
  | [], _ => []
  | a :: r, b => a.code b ++ codeL r (b + (a.code b).length)
end
/-- a statement, or a row of them -/
inductive Un where
  | row (l : List Sm) | st (s : Sm)
def Un.d : Un → PyData
  | .row l => rowD l
  | .st s => s.d
def Un.dp : Un → Nat
  | .row l => dpL l
  | .st s => s.dp
def Un.ok (m : Nat) : Un → Prop
  | .row l => okL m l
  | .st s => s.ok m
def Un.cnt : Un → Nat
  | .row l => cntL l
  | .st s => s.cnt
def Un.code : Un → Nat → List Rw
  | .row l, b => codeL l b
  | .st s, b => s.code b
/-! sizes -/
theorem Ex.pos (e : Ex) : 0 < e.code.length := by
  cases e <;> simp only [Ex.code, List.length_append, List.length_cons, List.length_nil] <;> omega
theorem Ex.len2 : ∀ e : Ex, e.code.length + 1 ≤ 2 ^ e.dep
  | .num _ => by simp [Ex.code, Ex.dep]
  | .text _ => by simp [Ex.code, Ex.dep]
  | .name _ => by simp [Ex.code, Ex.dep]
  | .op s a b => by
    have h1 := Ex.len2 a
    have h2 := Ex.len2 b
    have h3 : 2 ^ a.dep ≤ 2 ^ max a.dep b.dep := Nat.pow_le_pow_right (by decide) (Nat.le_max_left ..)
    have h4 : 2 ^ b.dep ≤ 2 ^ max a.dep b.dep := Nat.pow_le_pow_right (by decide) (Nat.le_max_right ..)
    have h5 : 2 ^ (1 + max a.dep b.dep) = 2 * 2 ^ max a.dep b.dep := by rw [Nat.add_comm, Nat.pow_succ]; omega
    simp only [Ex.code, Ex.dep, List.length_append, List.length_cons, List.length_nil]
    omega
theorem Ex.lenM {e : Ex} {m : Nat} (h : e.dep ≤ m) : e.code.length ≤ 2 ^ m := by
  have h1 := e.len2
  have h2 : 2 ^ e.dep ≤ 2 ^ m := Nat.pow_le_pow_right (by decide) h
  omega
mutual
theorem Sm.len_le {m : Nat} : ∀ (s : Sm) (b : Nat), s.ok m → (s.code b).length ≤ (2 ^ m + 3) * s.cnt
  | .say e, b, h => by
    have := Ex.lenM h.2
    simp only [Sm.code, Sm.cnt, List.length_append, List.length_cons, List.length_nil]
    omega
  | .set x e, b, h => by
    have := Ex.lenM h.2.2
    simp only [Sm.code, Sm.cnt, List.length_append, List.length_cons, List.length_nil]
    omega
  | .ite e s t, b, h => by
    have h0 := Ex.lenM h.1.2
    have h1 := len_leL s (b + e.code.length + 1) h.2.1
    have h2 := len_leL t (b + e.code.length + (codeL s (b + e.code.length + 1)).length + 2) h.2.2
    simp only [Sm.code, Sm.cnt, List.length_append, List.length_cons, List.length_nil]
    rw [Nat.mul_add, Nat.mul_add, Nat.mul_one]
    omega
  | .whl e s, b, h => by
    have h0 := Ex.lenM h.1.2
    have h1 := len_leL s (b + e.code.length + 2) h.2
    simp only [Sm.code, Sm.cnt, List.length_append, List.length_cons, List.length_nil]
    rw [Nat.mul_add, Nat.mul_one]
    omega
theorem len_leL {m : Nat} : ∀ (l : List Sm) (b : Nat), okL m l → (codeL l b).length ≤ (2 ^ m + 3) * cntL l
  | [], b, _ => by simp [codeL, cntL]
  | a :: r, b, h => by
    have h1 := Sm.len_le a b h.1
    have h2 := len_leL r (b + (a.code b).length) h.2
    simp only [codeL, cntL, List.length_append]
    rw [Nat.mul_add]
    omega
end
theorem Un.len_le {m : Nat} (o : Un) (b : Nat) (h : o.ok m) : (o.code b).length ≤ (2 ^ m + 3) * o.cnt := by
  cases o with
  | row l => exact len_leL l b h
  | st s => exact s.len_le b h
theorem dL_map : ∀ l : List Sm, dL l = l.map Sm.d
  | [] => by simp [dL]
  | a :: r => by simp [dL, dL_map r]
theorem codeL_append : ∀ (l k : List Sm) (b : Nat), codeL (l ++ k) b = codeL l b ++ codeL k (b + (codeL l b).length)
  | [], k, b => by simp [codeL]
  | a :: r, k, b => by simp [codeL, codeL_append r k, Nat.add_assoc]
theorem okL_mem {m : Nat} : ∀ {l : List Sm} {s : Sm}, okL m l → s ∈ l → s.ok m
  | _ :: _, _, h, .head _ => h.1
  | _ :: _, _, h, .tail _ h' => okL_mem h.2 h'
theorem dpL_mem : ∀ {l : List Sm} {s : Sm}, s ∈ l → s.dp < dpL l
  | a :: r, _, .head _ => by simp only [dpL]; omega
  | a :: r, _, .tail _ h' => by have := dpL_mem h'; simp only [dpL]; omega
theorem cntL_append : ∀ (l k : List Sm), cntL (l ++ k) = cntL l + cntL k
  | [], k => by simp [cntL]
  | a :: r, k => by simp [cntL, cntL_append r k]; omega
theorem cntL_take : ∀ (l : List Sm) (i : Nat), cntL (l.take i) ≤ cntL l
  | [], i => by simp
  | a :: r, 0 => by simp [cntL]
  | a :: r, i + 1 => by have := cntL_take r i; simp only [List.take_succ_cons, cntL]; omega
theorem okL_take {m : Nat} : ∀ (l : List Sm) (i : Nat), okL m l → okL m (l.take i)
  | [], i, _ => by simp [okL]
  | a :: r, 0, _ => by simp [okL]
  | a :: r, i + 1, h => ⟨h.1, okL_take r i h.2⟩
theorem okL_append {m : Nat} : ∀ {l k : List Sm}, okL m l → okL m k → okL m (l ++ k)
  | [], _, _, h => h
  | _ :: _, _, h, h' => ⟨h.1, okL_append h.2 h'⟩

/-! classes and dicts in the layer's words -/
/-- the classes' addresses -/
structure CA where
  coder : Addr
  state : Addr
  notes : Addr
  maker : Addr
  slots : Addr
  machine : Addr
  words : Addr
  reader : Addr
  hunch : Addr
  unread : Addr
  notop : Addr
section
variable (P : Program) (w : World) (K : PySem.W.Frag) (mg : Str → Option Value) (base : Heap)
/-- the method m of the class at C keeps sp -/
def OkM (k : Nat) (C : Addr) (m : Str) (ps : List Str) (sp : Sp) : Prop := ∃ f fd, FnOk P w K mg base CX0 k f fd ps sp ∧ Meth K C m f ∧ Binds K fd ps []
/-- the class at C is made by an __init__ that keeps sp -/
def OkI (k : Nat) (C : Addr) (ps : List Str) (sp : Sp) : Prop := ∃ f fd, FnOk P w K mg base CX0 k f fd ps sp ∧ Mk K C f ∧ Binds K fd ps []
def MethAt (C : Addr) (m qual : Str) (st : Stmt) : Prop := ∃ f fd, FunD K m qual (defArgs st) (defBody st) (defScope st) [] [] f fd ∧ Meth K C m f
def InitAt (C : Addr) (qual : Str) (st : Stmt) : Prop := ∃ f fd, FunD K "__init__" qual (defArgs st) (defBody st) (defScope st) [] [] f fd ∧ Mk K C f
end
section
variable {P : Program} {w : World} {K : PySem.W.Frag} {mg : Str → Option Value} {base : Heap} {C : Addr}
theorem OkM.mono {j k : Nat} {m : Str} {ps : List Str} {sp : Sp} (F : OkM P w K mg base j C m ps sp) (h : j ≤ k) : OkM P w K mg base k C m ps sp := by
  obtain ⟨f, fd, F, a, b⟩ := F
  exact ⟨f, fd, F.mono h, a, b⟩
theorem OkI.mono {j k : Nat} {ps : List Str} {sp : Sp} (F : OkI P w K mg base j C ps sp) (h : j ≤ k) : OkI P w K mg base k C ps sp := by
  obtain ⟨f, fd, F, a, b⟩ := F
  exact ⟨f, fd, F.mono h, a, b⟩
theorem MethAt.ok {m qual : Str} {st : Stmt} {N ps : List Str} {k : Nat} {sp : Sp} (D : MethAt K C m qual st) (S : FnScope N ps (defScope st))
    (hb : ∀ (kV doc pm : Value) (an : Option Addr) (cdv ct : Value) (us : List Value), us.length = ps.length → bindArgs (PySem.W.fnOf m qual (defArgs st) (defBody st) (defScope st) .none kV doc pm an cdv ct) ⟨us, []⟩ = pure (ps.zip us))
    (len : ∀ vs H Q E, sp vs H Q E → vs.length = ps.length)
    (hbody : ∀ (f : Addr) (cdv : Value) (A : Around) (outer : List Env) (s : Shared) (H : Hp) (vs : List V) (Q : VK) (E : XK), Room k (A.deeper (envOfC qual (defScope st) s.heap.objs.size f cdv)) → sp vs H Q E →
      ∃ t, PSs (cxOf CX0 P w K mg base N qual (defScope st) f cdv A outer s H E).nox (defBody st) t ∧ (HSz H → t { nx := fun _ H' => Q .non H', rt := Q } (start N vs) H)) : OkM P w K mg base (k + 1) C m ps sp := by
  obtain ⟨f, fd, F, hm⟩ := D
  refine ⟨f, fd, F.ok S len fun cdv A outer s H vs Q E hr h => ?_, hm, F.bindsN hb⟩
  obtain ⟨t, h1, h2⟩ := hbody f cdv A outer s H vs Q E hr h
  exact ⟨_, (pssSz h1).nox, h2⟩
theorem MethAt.none {m qual : Str} {st : Stmt} {ps : List Str} {sp : Sp} (D : MethAt K C m qual st)
    (hb : ∀ (kV doc pm : Value) (an : Option Addr) (cdv ct : Value) (us : List Value), us.length = ps.length → bindArgs (PySem.W.fnOf m qual (defArgs st) (defBody st) (defScope st) .none kV doc pm an cdv ct) ⟨us, []⟩ = pure (ps.zip us))
    (no : ∀ vs H Q E, ¬ sp vs H Q E) : OkM P w K mg base 0 C m ps sp := by
  obtain ⟨f, fd, F, hm⟩ := D
  exact ⟨f, fd, ⟨fun vs H Q E h => absurd h (no vs H Q E), fun A outer s H args us vs Q E _ _ _ _ h => absurd h (no vs H Q E)⟩, hm, F.bindsN hb⟩
theorem InitAt.ok {qual : Str} {st : Stmt} {N ps : List Str} {k : Nat} {sp : Sp} (D : InitAt K C qual st) (S : FnScope N ps (defScope st))
    (hb : ∀ (kV doc pm : Value) (an : Option Addr) (cdv ct : Value) (us : List Value), us.length = ps.length → bindArgs (PySem.W.fnOf "__init__" qual (defArgs st) (defBody st) (defScope st) .none kV doc pm an cdv ct) ⟨us, []⟩ = pure (ps.zip us))
    (len : ∀ vs H Q E, sp vs H Q E → vs.length = ps.length)
    (hbody : ∀ (f : Addr) (cdv : Value) (A : Around) (outer : List Env) (s : Shared) (H : Hp) (vs : List V) (Q : VK) (E : XK), Room k (A.deeper (envOfC qual (defScope st) s.heap.objs.size f cdv)) → sp vs H Q E →
      ∃ t, PSs (cxOf CX0 P w K mg base N qual (defScope st) f cdv A outer s H E).nox (defBody st) t ∧ (HSz H → t { nx := fun _ H' => Q .non H', rt := Q } (start N vs) H)) : OkI P w K mg base (k + 1) C ps sp := by
  obtain ⟨f, fd, F, hm⟩ := D
  refine ⟨f, fd, F.ok S len fun cdv A outer s H vs Q E hr h => ?_, hm, F.bindsN hb⟩
  obtain ⟨t, h1, h2⟩ := hbody f cdv A outer s H vs Q E hr h
  exact ⟨_, (pssSz h1).nox, h2⟩
end

/-! ### fields, methods, new objects -/
def xFld (C : Addr) (ta : TE) (f : Str) : TE := fun σ H Q => ta σ H fun x H1 => ∃ a dx fs v, x = .ref a ∧ H1 a = some (.ins C dx fs) ∧ fs.lookup f = some v ∧ Q v H1
def xSet (C : Addr) (ta tv : TE) (f : Str) : TS := fun D σ H => tv σ H fun y H1 => ta σ H1 fun x H2 => ∃ a dx fs, x = .ref a ∧ H2 a = some (.ins C dx fs) ∧ fs.length < 1000 ∧ ∀ H', Mu H2 a (.ins C dx (putF f y fs)) H' → D.nx σ H'
def xMeth (C : Addr) (m : Str) (sp : Sp) (ta : TE) (t : TA) : TE := fun σ H Q => ta σ H fun x H1 => ∃ a dx fs, x = .ref a ∧ H1 a = some (.ins C dx fs) ∧ fs.lookup m = none ∧ t σ H1 fun vs H2 => sp (x :: vs) H2 Q E0
def xMake (C : Addr) (sp : Sp) (t : TA) : TE := fun σ H Q => t σ H fun vs H1 => ∀ x dx H2, Al H1 x (.ins C dx []) H2 → sp (.ref x :: vs) H2 (fun v H3 => v = .non ∧ Q (.ref x) H3) E0
section
variable {X : Cx} {C : Addr} {o e value : Expr} {es : List Expr} {f m x : Str} {pos pos' apos p : Pos} {ta tv : TE} {t : TA} {k : Nat} {ps : List Str} {sp : Sp}
theorem pe_fldC (cl : Cls X.K C) (na : NoAttr X.K C f) (he : PE X e ta) (hb : attributeBase e f X.env (eval e X.env) = eval e X.env := by rfl) : PE X (.Attribute e f pos) (xFld C ta f) := by
  refine peM (pe_fld (mo he) hb) ?_
  intro σ H Q h
  refine ⟨_, h, ?_⟩
  rintro x H1 ⟨a, dx, fs, v, e1, h1, l, q⟩
  exact ⟨a, C, dx, fs, v, e1, h1, cl, na, l, q⟩
theorem ps_fldC (cl : Cls X.K C) (na : NoAttr X.K C f) (ha : PE X o ta) (hv : PE X value tv) (hs : swapsWith value (some (.Attribute o f pos')) pos.line X.env = pure false := by rfl) : PS X (.Assign [.Attribute o f pos'] value pos) (xSet C ta tv f) := by
  refine psM (ps_fld (mo ha) (mo hv) hs) ?_
  intro D σ H h
  refine ⟨_, h, ?_⟩
  intro y H1 h
  refine ⟨_, h, ?_⟩
  rintro x H2 ⟨a, dx, fs, e1, h1, l, q⟩
  exact ⟨a, C, dx, fs, e1, h1, cl, na, l, q _ (.of h1 fun _ z => by cases z)⟩
theorem pe_methC {pl : Sem Bool} (F : OkM X.prog X.w X.K X.mg X.base k C m ps sp) (hr : Room k X.A) (cl : Cls X.K C) (he : PE X o ta) (ha : PA X (e :: es) t)
    (hst : starEach (e :: es) X.env = (false, eval e X.env) :: starEach es X.env := by rfl) (hpl : (backTo pos (starEach es X.env)).any (·.1) = false := by rfl)
    (ht : eval (.Call (.Attribute o m apos) (e :: es) [] pos) X.env = (do
      let ov ← eval o X.env
      standAt apos.atName
      let (f, first) ← holding [ov] (getMethod ov m pl)
      callWith pos f first (backTo pos (starEach (e :: es) X.env)) (backToKw pos (keywordEach [] X.env))) := by rfl) :
    PE X (.Call (.Attribute o m apos) (e :: es) [] pos) (xMeth C m sp ta t) := by
  obtain ⟨f, fd, F, hm, b⟩ := F
  refine peM (pe_meth (mo he) cl hm F hr b .nil pass0 (moA ha) hst hpl ht) ?_
  intro σ H Q h
  refine ⟨_, h, ?_⟩
  rintro x H1 ⟨a, dx, fs, e1, h1, l, q⟩
  refine ⟨a, dx, fs, e1, h1, l, _, q, ?_⟩
  intro xs H2 h
  rw [List.append_nil]
  exact h
theorem pe_methC0 {pl : Sem Bool} (F : OkM X.prog X.w X.K X.mg X.base k C m ps sp) (hr : Room k X.A) (cl : Cls X.K C) (he : PE X o ta)
    (ht : eval (.Call (.Attribute o m apos) [] [] pos) X.env = (do
      let ov ← eval o X.env
      standAt apos.atName
      let (f, first) ← holding [ov] (getMethod ov m pl)
      callWith pos f first (backTo pos (starEach [] X.env)) (backToKw pos (keywordEach [] X.env))) := by rfl) :
    PE X (.Call (.Attribute o m apos) [] [] pos) (xMeth C m sp ta tNil) := by
  obtain ⟨f, fd, F, hm, b⟩ := F
  refine peM (pe_meth0 (mo he) cl hm F hr b .nil pass0 ht) ?_
  intro σ H Q h
  refine ⟨_, h, ?_⟩
  rintro x H1 ⟨a, dx, fs, e1, h1, l, q⟩
  exact ⟨a, dx, fs, e1, h1, l, q⟩
theorem al_made {H : Hp} {x dx : Addr} (hx : H x = none) (hd : H dx = none) (ne : dx ≠ x) : Al H x (.ins C dx []) (upd (upd H dx (.own x)) x (.ins C dx [])) :=
  ⟨hx, upd_same, fun {b u} e => by rw [upd_ne (ne_of_none e hx), upd_ne (ne_of_none e hd)]; exact e⟩
theorem pe_makeC (F : OkI X.prog X.w X.K X.mg X.base k C ps sp) (hr : Room (k + 1) X.A) (hg : Gl X x) (hm : X.mg x = some (.ref C)) (ha : PA X (e :: es) t) (hdb : (x == ("__debug__" : Str)) = false := by decide)
    (he : starEach (e :: es) X.env = (false, eval e X.env) :: starEach es X.env := by rfl) (hpl : (backTo pos (starEach es X.env)).any (·.1) = false := by rfl) :
    PE X (.Call (.Name x p) (e :: es) [] pos) (xMake C sp t) := by
  obtain ⟨f, fd, F, M, b⟩ := F
  refine peM (pe_make M F hr hg hm b .nil pass0 (moA ha) hdb he hpl) ?_
  intro σ H Q h
  refine ⟨_, h, ?_⟩
  intro xs H1 h a dx h1 h2 h3
  rw [List.append_nil]
  exact h a dx _ (al_made h1 h2 h3)
theorem pe_makeC0 (F : OkI X.prog X.w X.K X.mg X.base k C ps sp) (hr : Room (k + 1) X.A) (hg : Gl X x) (hm : X.mg x = some (.ref C)) (hdb : (x == ("__debug__" : Str)) = false := by decide) :
    PE X (.Call (.Name x p) [] [] pos) (xMake C sp tNil) := by
  obtain ⟨f, fd, F, M, b⟩ := F
  refine peM (pe_make0 M F hr hg hm b .nil pass0 hdb) ?_
  intro σ H Q h a dx h1 h2 h3
  exact h a dx _ (al_made h1 h2 h3)
end

/-! ### dicts -/
def rGetS : R2 := fun x y H Q => ∃ a kvs z v, x = .ref a ∧ y = .str z ∧ H a = some (.dK kvs) ∧ valV kvs (.inr z) = some v ∧ Q v H
def rGetI : R2 := fun x y H Q => ∃ a kvs z v, x = .ref a ∧ y = .int z ∧ H a = some (.dK kvs) ∧ valV kvs (.inl z) = some v ∧ Q v H
/-- k in d, k not in d -/
def rInDS (neg : Bool) : R2 := fun y x H Q => ∃ a kvs z, x = .ref a ∧ y = .str z ∧ H a = some (.dK kvs) ∧ Q (.bl (if neg then !(valV kvs (.inr z)).isSome else (valV kvs (.inr z)).isSome)) H
def rInDI (neg : Bool) : R2 := fun y x H Q => ∃ a kvs z, x = .ref a ∧ y = .int z ∧ H a = some (.dK kvs) ∧ Q (.bl (if neg then !(valV kvs (.inl z)).isSome else (valV kvs (.inl z)).isSome)) H
def xPutS (td ty tv : TE) : TS := fun D σ H => tv σ H fun v H1 => td σ H1 fun x H2 => ty σ H2 fun y H3 => ∃ a kvs z, x = .ref a ∧ y = .str z ∧ H3 a = some (.dK kvs) ∧ kvs.length < sizeLine ∧ ∀ H', Mu H3 a (.dK (putK kvs (.inr z) v)) H' → D.nx σ H'
def xPutI (td ty tv : TE) : TS := fun D σ H => tv σ H fun v H1 => td σ H1 fun x H2 => ty σ H2 fun y H3 => ∃ a kvs z, x = .ref a ∧ y = .int z ∧ H3 a = some (.dK kvs) ∧ kvs.length < sizeLine ∧ ∀ H', Mu H3 a (.dK (putK kvs (.inl z) v)) H' → D.nx σ H'
def xGet2S (td ty tx : TE) : TE := fun σ H Q => td σ H fun x H1 => ∃ a kvs0, x = .ref a ∧ H1 a = some (.dK kvs0) ∧ ty σ H1 fun y H2 => tx σ H2 fun d H3 => ∃ kvs z, y = .str z ∧ H3 a = some (.dK kvs) ∧ Q ((valV kvs (.inr z)).getD d) H3
def xGet2I (td ty tx : TE) : TE := fun σ H Q => td σ H fun x H1 => ∃ a kvs0, x = .ref a ∧ H1 a = some (.dK kvs0) ∧ ty σ H1 fun y H2 => tx σ H2 fun d H3 => ∃ kvs z, y = .int z ∧ H3 a = some (.dK kvs) ∧ Q ((valV kvs (.inl z)).getD d) H3
def xPopI (td ty : TE) : TE := fun σ H Q => td σ H fun x H1 => ∃ a kvs0, x = .ref a ∧ H1 a = some (.dK kvs0) ∧ ty σ H1 fun y H2 => ∃ kvs z v, y = .int z ∧ H2 a = some (.dK kvs) ∧ valV kvs (.inl z) = some v ∧ ∀ H', Mu H2 a (.dK (dropK kvs (.inl z))) H' → Q v H'
def rDctD : List V → Hp → VK → Prop := fun vs H Q => ∃ a kvs, vs = [.ref a] ∧ H a = some (.dK kvs) ∧ ∀ p H', Al H p (.dK kvs) H' → Q (.ref p) H'
def rLstD : List V → Hp → VK → Prop := fun vs H Q => ∃ a kvs, vs = [.ref a] ∧ H a = some (.dK kvs) ∧ ∀ p H', Al H p (.lst (kvs.map fun kv => kV kv.1)) H' → Q (.ref p) H'
def rSrtL : List V → Hp → VK → Prop := fun vs H Q => ∃ (a : Addr) (xs : List Str), vs = [V.ref a] ∧ H a = some (.lst (xs.map V.str)) ∧ xs.length < 64 ∧ ∀ (ys : List Str) (p : Addr) H', ys.Perm xs → sortedS ys = true → Al H p (.lst (ys.map V.str)) H' → Q (.ref p) H'
def rSrtD : List V → Hp → VK → Prop := fun vs H Q => ∃ (a : Addr) (kvs : List (Key × V)) (ks : List Str), vs = [V.ref a] ∧ H a = some (.dK kvs) ∧ kvs.map (·.1) = ks.map Sum.inr ∧ ks.length < 64 ∧ ∀ (ys : List Str) (p : Addr) H', ys.Perm ks → sortedS ys = true → Al H p (.lst (ys.map V.str)) H' → Q (.ref p) H'
section
variable {X : Cx} {o i e f value : Expr} {pos pos' apos cpos : Pos} {td ty tv tx : TE}
theorem opW {e : Expr} {r r' : R2} {ta tb : TE} (h : PE X e (tOp r (tMono ta) (tMono tb))) (m : ∀ x y H Q, r' x y H Q → r x y H Q) : PE X e (tOp r' ta tb) :=
  peM h fun σ H Q h => ⟨_, h, fun x H1 h => ⟨_, h, fun y H2 h => m x y H2 Q h⟩⟩
theorem pcW {op : CmpOp} {a b : Expr} {r r' : R2} {ta tb : TE} (h : PC X op a b (tOp r (tMono ta) (tMono tb))) (m : ∀ x y H Q, r' x y H Q → r x y H Q) : PC X op a b (tOp r' ta tb) :=
  ⟨fun pins s σ H Q I q => h.run pins s σ H Q I ⟨_, q, fun x H1 h => ⟨_, h, fun y H2 h => m x y H2 Q h⟩⟩⟩
theorem pe_getS (hu : X.A.units + 1 < cLine) (ho : PE X o td) (hi : PE X i ty) (hs : NoSl i) : PE X (.Subscript o i pos) (tOp rGetS td ty) :=
  opW (pe_dget hu (mo ho) (mo hi) hs) fun x y H Q ⟨a, kvs, z, v, e1, e2, h, g, q⟩ => ⟨a, v, e1, by subst e2; have := DGet.k (k := .inr z) h; rw [g] at this; exact this, q⟩
theorem pe_getI (hu : X.A.units + 1 < cLine) (ho : PE X o td) (hi : PE X i ty) (hs : NoSl i) : PE X (.Subscript o i pos) (tOp rGetI td ty) :=
  opW (pe_dget hu (mo ho) (mo hi) hs) fun x y H Q ⟨a, kvs, z, v, e1, e2, h, g, q⟩ => ⟨a, v, e1, by subst e2; have := DGet.k (k := .inl z) h; rw [g] at this; exact this, q⟩
theorem pc_inS (hu : X.A.units + 1 < cLine) (hi : PE X i ty) (ho : PE X o td) : PC X .In i o (tOp (rInDS false) ty td) :=
  pcW (pc_din hu (mo hi) (mo ho)) fun y x H Q ⟨a, kvs, z, e1, e2, h, q⟩ => ⟨a, _, e1, by subst e2; exact DGet.k (k := .inr z) h, q⟩
theorem pc_ninS (hu : X.A.units + 1 < cLine) (hi : PE X i ty) (ho : PE X o td) : PC X .NotIn i o (tOp (rInDS true) ty td) :=
  pcW (pc_dnotin hu (mo hi) (mo ho)) fun y x H Q ⟨a, kvs, z, e1, e2, h, q⟩ => ⟨a, _, e1, by subst e2; exact DGet.k (k := .inr z) h, q⟩
theorem pc_inI (hu : X.A.units + 1 < cLine) (hi : PE X i ty) (ho : PE X o td) : PC X .In i o (tOp (rInDI false) ty td) :=
  pcW (pc_din hu (mo hi) (mo ho)) fun y x H Q ⟨a, kvs, z, e1, e2, h, q⟩ => ⟨a, _, e1, by subst e2; exact DGet.k (k := .inl z) h, q⟩
theorem pc_ninI (hu : X.A.units + 1 < cLine) (hi : PE X i ty) (ho : PE X o td) : PC X .NotIn i o (tOp (rInDI true) ty td) :=
  pcW (pc_dnotin hu (mo hi) (mo ho)) fun y x H Q ⟨a, kvs, z, e1, e2, h, q⟩ => ⟨a, _, e1, by subst e2; exact DGet.k (k := .inl z) h, q⟩
theorem ps_putS (hu : X.A.units + 1 < cLine) (ho : PE X o td) (hi : PE X i ty) (hv : PE X value tv) (hs : swapsWith value (some (.Subscript o i pos')) pos.line X.env = pure false := by rfl) : PS X (.Assign [.Subscript o i pos'] value pos) (xPutS td ty tv) := by
  refine psM (ps_dput hu (mo ho) (mo hi) (mo hv) hs) fun D σ H h => ⟨_, h, fun v H1 h => ⟨_, h, fun x H2 h => ⟨_, h, ?_⟩⟩⟩
  rintro y H3 ⟨a, kvs, z, e1, e2, hh, hl, q⟩
  subst e1 e2
  exact ⟨a, _, rfl, DPut.k (k := .inr z) hh hl, q _ (.of hh fun _ z => by cases z)⟩
theorem ps_putI (hu : X.A.units + 1 < cLine) (ho : PE X o td) (hi : PE X i ty) (hv : PE X value tv) (hs : swapsWith value (some (.Subscript o i pos')) pos.line X.env = pure false := by rfl) : PS X (.Assign [.Subscript o i pos'] value pos) (xPutI td ty tv) := by
  refine psM (ps_dput hu (mo ho) (mo hi) (mo hv) hs) fun D σ H h => ⟨_, h, fun v H1 h => ⟨_, h, fun x H2 h => ⟨_, h, ?_⟩⟩⟩
  rintro y H3 ⟨a, kvs, z, e1, e2, hh, hl, q⟩
  subst e1 e2
  exact ⟨a, _, rfl, DPut.k (k := .inl z) hh hl, q _ (.of hh fun _ z => by cases z)⟩
theorem pe_get2S (hu : X.A.units + 1 < cLine) (ho : PE X o td) (he : PE X e ty) (hf : PE X f tx) (m : M2 X o "get" apos e f cpos := by exact ⟨rfl, rfl, rfl, rfl⟩) : PE X (.Call (.Attribute o "get" apos) [e, f] [] cpos) (xGet2S td ty tx) := by
  refine peM (pe_dget2 hu (mo ho) (mo he) (mo hf) m) fun σ H Q h => ⟨_, h, ?_⟩
  rintro x H1 ⟨a, kvs0, e1, h1, h⟩
  refine ⟨a, e1, .inl ⟨_, .inl h1⟩, _, h, fun y H2 h => ⟨_, h, ?_⟩⟩
  rintro d H3 ⟨kvs, z, e2, h3, q⟩
  subst e2
  exact ⟨_, DGet.k (k := .inr z) h3, q⟩
theorem pe_get2I (hu : X.A.units + 1 < cLine) (ho : PE X o td) (he : PE X e ty) (hf : PE X f tx) (m : M2 X o "get" apos e f cpos := by exact ⟨rfl, rfl, rfl, rfl⟩) : PE X (.Call (.Attribute o "get" apos) [e, f] [] cpos) (xGet2I td ty tx) := by
  refine peM (pe_dget2 hu (mo ho) (mo he) (mo hf) m) fun σ H Q h => ⟨_, h, ?_⟩
  rintro x H1 ⟨a, kvs0, e1, h1, h⟩
  refine ⟨a, e1, .inl ⟨_, .inl h1⟩, _, h, fun y H2 h => ⟨_, h, ?_⟩⟩
  rintro d H3 ⟨kvs, z, e2, h3, q⟩
  subst e2
  exact ⟨_, DGet.k (k := .inl z) h3, q⟩
theorem pe_popI (ho : PE X o td) (he : PE X e ty) (m : M1 X o "pop" apos e cpos := by exact ⟨rfl, rfl, rfl, rfl⟩) : PE X (.Call (.Attribute o "pop" apos) [e] [] cpos) (xPopI td ty) := by
  refine peM (pe_dpop1 (mo ho) (mo he) m) fun σ H Q h => ⟨_, h, ?_⟩
  rintro x H1 ⟨a, kvs0, e1, h1, h⟩
  refine ⟨a, e1, .inl ⟨_, .inl h1⟩, _, h, ?_⟩
  rintro y H2 ⟨kvs, z, v, e2, h2, g, q⟩
  exact ⟨kvs, .inl z, v, h2, e2, g, q _ (.of h2 fun _ z => by cases z)⟩
theorem cl_dctD : CallR X (.type "dict") rDctD := clM call_dictD fun _ _ _ ⟨a, kvs, e, h, q⟩ => ⟨a, kvs, e, .inl h, fun p hp => q p _ (.of hp)⟩
theorem cl_lstD (hc : X.calm = true) : CallR X (.type "list") rLstD := clM (call_listD hc) fun _ _ _ ⟨a, kvs, e, h, q⟩ => ⟨a, kvs, e, .inl h, fun p hp => q p _ (.of hp)⟩
theorem cl_srtL : CallR X (.builtin "sorted") rSrtL := clM cr_sortedS fun _ _ _ ⟨a, xs, e, h, hl, q⟩ => ⟨a, xs, e, SqL.of h, hl, fun ys p h1 h2 hp => q ys p _ h1 h2 (.of hp)⟩
theorem cl_srtD (hc : X.calm = true) : CallR X (.builtin "sorted") rSrtD := clM (call_sortedD hc) fun _ _ _ ⟨a, kvs, ks, e, h, hk, hl, q⟩ => ⟨a, kvs, ks, e, .inl h, hk, hl, fun ys p h1 h2 hp => q ys p _ h1 h2 (.of hp)⟩
end

/-! ### dicts beside each other -/
def EqK (ks ls : List (Key × V)) : Prop := ks.length = ls.length ∧ ∀ p ∈ ks, valV ls p.1 = some p.2 ∧ flatB p.2 = true
def rEqDD : R2 := fun x y H Q => ∃ a b ks ls, x = .ref a ∧ y = .ref b ∧ H a = some (.dK ks) ∧ H b = some (.dK ls) ∧ EqK ks ls ∧ Q (.bl true) H
theorem op_eqDD {X : Cx} (hu : X.A.units + 64 < cLine) : OpR X (compareOp .Eq) rEqDD := opM (op_eqV hu) fun x y H Q ⟨a, b, ks, ls, e1, e2, h1, h2, hk, q⟩ =>
  ⟨1, by decide, .inr ⟨a, b, ks, ls, e1, e2, h1, h2, hk.1, fun p hp => ⟨p.2, (hk.2 p hp).1, .inl ⟨rfl, (hk.2 p hp).2⟩⟩⟩, q⟩
def rNeDD : R2 := fun x y H Q => ∃ a b ks ls, x = .ref a ∧ y = .ref b ∧ H a = some (.dK ks) ∧ H b = some (.dK ls) ∧ EqK ks ls ∧ Q (.bl false) H
theorem op_neDD {X : Cx} (hu : X.A.units + 64 < cLine) : OpR X (compareOp .NotEq) rNeDD := opM (op_ne_dictA (by omega)) fun x y H Q ⟨a, b, ks, ls, e1, e2, h1, h2, hk, q⟩ => ⟨a, b, ks, ls, e1, e2, h1, h2, hk.1, hk.2, q⟩
/-! ### a part of a tuple -/
def rSlT : V → Option Int → Option Int → Hp → VK → Prop := fun x lo hi H Q => ∃ a xs, x = .ref a ∧ H a = some (.tup xs) ∧ ∀ p H', H' p = some (.tup (cutV xs lo hi)) → Fr [] H H' → Q (.ref p) H'
theorem cutV_all {xs : List V} {lo hi : Option Int} (h : HT.sIx xs.length 0 lo = 0 ∧ HT.sIx xs.length xs.length hi = xs.length) : cutV xs lo hi = xs := by
  unfold cutV
  rw [h.1, h.2]
  simp
theorem sl_tX {X : Cx} : SlR X rSlT := fun pins s σ H x v vl vu lo hi sl Q I rx hs pl pu ⟨a, xs, e, h, q⟩ => sl_tupA pins s σ H x v vl vu lo hi sl Q I rx hs pl pu ⟨a, xs, e, SqT.of h, fun w => q a H (by rw [cutV_all w]; exact h) (.refl _ _), fun _ p hp => q p _ upd_same (Al.of hp).fr⟩
/-! ### tuples joined -/
def rCatX : R2 := fun x y H Q => ∃ a b xs ys, x = .ref a ∧ y = .ref b ∧ H a = some (.tup xs) ∧ H b = some (.tup ys) ∧ xs.length + ys.length ≤ sizeLine ∧ ∀ p H', H' p = some (.tup (xs ++ ys)) → Fr [] H H' → Q (.ref p) H'
theorem op_catX {X : Cx} : OpR X (binaryOp .Add) rCatX := opM op_catA fun x y H Q ⟨a, b, xs, ys, e1, e2, h1, h2, hz, q⟩ => ⟨a, b, xs, ys, e1, e2, SqT.of h1, SqT.of h2, hz,
  fun e => q b H (by rw [e]; exact h2) (.refl _ _), fun _ e => q a H (by rw [e, List.append_nil]; exact h1) (.refl _ _), fun _ _ p hp => q p _ upd_same (Al.of hp).fr⟩
/-! more rules: clear, dicts beside each other -/
def xClrD (to : TE) : TE := fun σ H Q => to σ H fun x H1 => ∃ a kvs, x = .ref a ∧ H1 a = some (.dK kvs) ∧ ∀ H', Mu H1 a (.dK []) H' → Q .non H'
def xClrL (to : TE) : TE := fun σ H Q => to σ H fun x H1 => ∃ a xs, x = .ref a ∧ H1 a = some (.lst xs) ∧ ∀ H', Mu H1 a (.lst []) H' → Q .non H'
section
variable {X : Cx} {o : Expr} {to : TE} {apos cpos : Pos}
theorem pe_clrD (ho : PE X o to) (hbase : attributeBase o "clear" X.env (eval o X.env) = eval o X.env := by rfl) (hline : (apos.endLine == cpos.line) = true := by rfl) : PE X (.Call (.Attribute o "clear" apos) [] [] cpos) (xClrD to) := by
  refine peM (pe_dclear (mo ho) hbase hline) ?_
  intro σ H Q h
  refine ⟨_, h, ?_⟩
  rintro x H1 ⟨a, kvs, rfl, h1, q⟩
  exact ⟨Or.inr (Or.inr (Or.inl ⟨rfl, .inl ⟨_, h1⟩⟩)), a, kvs, rfl, rfl, h1, q _ (.of h1 fun _ z => by cases z)⟩
theorem pe_clrL (ho : PE X o to) (hbase : attributeBase o "clear" X.env (eval o X.env) = eval o X.env := by rfl) (hline : (apos.endLine == cpos.line) = true := by rfl) : PE X (.Call (.Attribute o "clear" apos) [] [] cpos) (xClrL to) := by
  refine peM (pe_bm0 PySem.F.plainAttrs_list PySem.F.slot_list_clear PySem.F.type_list_clear mt_clear (mo ho) hbase hline) ?_
  intro σ H Q h
  refine ⟨_, h, ?_⟩
  rintro x H1 ⟨l, xs, rfl, h1, q⟩
  exact ⟨Or.inl ⟨rfl, _, SqL.of h1⟩, l, xs, rfl, rfl, h1, q _ (.of h1 fun _ z => by cases z)⟩
end
/-- values flat, or the same object -/
def EqX (ks ls : List (Key × V)) : Prop := ks.length = ls.length ∧ ∀ p ∈ ks, valV ls p.1 = some p.2 ∧ (flatB p.2 = true ∨ ∃ a, p.2 = .ref a)
def rEqDX : R2 := fun x y H Q => ∃ a b ks ls, x = .ref a ∧ y = .ref b ∧ H a = some (.dK ks) ∧ H b = some (.dK ls) ∧ EqX ks ls ∧ Q (.bl true) H
theorem op_eqDX {X : Cx} (hu : X.A.units + 64 < cLine) : OpR X (compareOp .Eq) rEqDX := opM (op_eqV hu) fun x y H Q ⟨a, b, ks, ls, e1, e2, h1, h2, hk, q⟩ =>
  ⟨1, by decide, .inr ⟨a, b, ks, ls, e1, e2, h1, h2, hk.1, fun p hp => ⟨p.2, (hk.2 p hp).1, (hk.2 p hp).2.elim (fun z => .inl ⟨rfl, z⟩) fun ⟨a, e⟩ => .inr (.inl ⟨a, e, e⟩)⟩⟩, q⟩
/-- two empty lists -/
def rNeE : R2 := fun x y H Q => ∃ p q, x = .ref p ∧ y = .ref q ∧ H p = some (.lst []) ∧ H q = some (.lst []) ∧ Q (.bl false) H
theorem op_neE {X : Cx} (hu : X.A.units + 64 < cLine) : OpR X (compareOp .NotEq) rNeE := by
  refine opM (op_neD hu) ?_
  rintro x y H Q ⟨p, q, rfl, rfl, h1, h2, k⟩
  exact ⟨.list [], .list [], .lst (SqL.of h1) .nil, .lst (SqL.of h2) .nil, rfl, rfl, k⟩

local macro_rules
  | `(tactic| push_cast [$as,*]) => `(tactic| simp only [tIfS, tRet, tRetN, tAsg, gName, gSub, gCons, gNil, gTup, tDrop, tNext, tVar, tC, tOp, tUn, tTest, tB, tAnd, tOr, tNot, tAndV, tOrV, tNotV, tIf, tCons, tNil, xLst, xTup, xDic, tCB, tCall, tChain, tSl, tPart, tNoPart, rI, rI0, rU, rEq, rNe, scal, rXL, rXT, rXQ, rLenL, rLenT, rLenS, rLenQ, rInt1, rTupL, rLstL, rIsN, rNotN, rInT, rAddS, rLtS, rInS1, rNinS1, rIxS, rSlS, rStL, rCt, rSL, tApp, tPopAt, tPopL, tJoinL, tIndex, xFld, xSet, xMeth, xMake, rGetS, rGetI, rInDS, rInDI, xPutS, xPutI, xGet2S, xGet2I, xPopI, xClrD, xClrL, rEqDX, rNeE, rDctD, rLstD, rCatX, rSlT, rEqDD, rNeDD, HO.ins.injEq, ixN0, ixN1, ixN2, ixN3, atI0, atI1, atI2, atI3, eqV_str, eqV_int, eqV_is, eqV_si, inV_nil, inV_cons, flatV, List.all_cons, List.all_nil, wd_eq, wd_ne0, wd_ne0', List.getElem?_cons_zero, List.getElem?_cons_succ, List.set_cons_zero, List.set_cons_succ, List.cons_append, List.nil_append, List.append_nil, Nat.reduceAdd, Nat.reduceLT, Option.some.injEq, V.int.injEq, V.str.injEq, V.bl.injEq, V.ref.injEq, HO.lst.injEq, HO.tup.injEq, HO.dK.injEq, List.cons.injEq, exists_eq_left, exists_eq_left', exists_eq_right, exists_eq_right', exists_and_left, exists_and_right, exists_const, exists_eq, exists_eq', and_assoc, true_and, and_true, false_and, and_false, true_or, or_true, false_or, or_false, reduceCtorEq, not_true_eq_false, not_false_eq_true, decide_true, decide_false, decide_eq_true_eq, decide_not, Bool.not_true, Bool.not_false, Bool.false_eq_true, Bool.true_and, Bool.and_true, Bool.false_and, Bool.and_false, Bool.true_or, Bool.or_true, Bool.false_or, Bool.or_false, if_true, if_false, ite_true, ite_false, Nat.reduceEqDiff, exists_false, eq_self, upd_same, Bool.not_eq_true', decide_eq_false_iff_not, $as,*])
  | `(tactic| push_cast) => `(tactic| simp only [tIfS, tRet, tRetN, tAsg, gName, gSub, gCons, gNil, gTup, tDrop, tNext, tVar, tC, tOp, tUn, tTest, tB, tAnd, tOr, tNot, tAndV, tOrV, tNotV, tIf, tCons, tNil, xLst, xTup, xDic, tCB, tCall, tChain, tSl, tPart, tNoPart, rI, rI0, rU, rEq, rNe, scal, rXL, rXT, rXQ, rLenL, rLenT, rLenS, rLenQ, rInt1, rTupL, rLstL, rIsN, rNotN, rInT, rAddS, rLtS, rInS1, rNinS1, rIxS, rSlS, rStL, rCt, rSL, tApp, tPopAt, tPopL, tJoinL, tIndex, xFld, xSet, xMeth, xMake, rGetS, rGetI, rInDS, rInDI, xPutS, xPutI, xGet2S, xGet2I, xPopI, xClrD, xClrL, rEqDX, rNeE, rDctD, rLstD, rCatX, rSlT, rEqDD, rNeDD, HO.ins.injEq, ixN0, ixN1, ixN2, ixN3, atI0, atI1, atI2, atI3, eqV_str, eqV_int, eqV_is, eqV_si, inV_nil, inV_cons, flatV, List.all_cons, List.all_nil, wd_eq, wd_ne0, wd_ne0', List.getElem?_cons_zero, List.getElem?_cons_succ, List.set_cons_zero, List.set_cons_succ, List.cons_append, List.nil_append, List.append_nil, Nat.reduceAdd, Nat.reduceLT, Option.some.injEq, V.int.injEq, V.str.injEq, V.bl.injEq, V.ref.injEq, HO.lst.injEq, HO.tup.injEq, HO.dK.injEq, List.cons.injEq, exists_eq_left, exists_eq_left', exists_eq_right, exists_eq_right', exists_and_left, exists_and_right, exists_const, exists_eq, exists_eq', and_assoc, true_and, and_true, false_and, and_false, true_or, or_true, false_or, or_false, reduceCtorEq, not_true_eq_false, not_false_eq_true, decide_true, decide_false, decide_eq_true_eq, decide_not, Bool.not_true, Bool.not_false, Bool.false_eq_true, Bool.true_and, Bool.and_true, Bool.false_and, Bool.and_false, Bool.true_or, Bool.or_true, Bool.false_or, Bool.or_false, if_true, if_false, ite_true, ite_false, Nat.reduceEqDiff, exists_false, eq_self, upd_same, Bool.not_eq_true', decide_eq_false_iff_not])

/-- _law_take from 3 -/
def t_L_take_3 (K : PySem.W.Frag) : TS :=
  (tSeq (tIfS (tTest (tOp (rInT false) (tOp rXL (tOp rXL (tVar 0) (tC (.int 0))) (tC (.int 0))) (xTup (tCons (tC (.int 0)) (tCons (tUn (rU fun i => .int (-i)) (tC (.int 1))) tNil))))) (tDrop (tPopAt (tOp rXL (tVar 0) (tC (.int 0))) (tC (.int 0)))) tNext)
    (tRet (tOp (rI (fun _ j => 0 < j) fun i j => .int (i % j)) (tVar 2) (tVar 1))))

/-- _law_take from 2 -/
def t_L_take_2 (K : PySem.W.Frag) : TS :=
  tSeq (tAsg (tOp (rI CDiv fun i j => .int (i / j)) (tVar 2) (tVar 1)) (gSub (tOp rXL (tVar 0) (tC (.int 0))) (tC (.int 0)) rStL)) (t_L_take_3 K)

/-- _law_take from 1 -/
def t_L_take_1 (K : PySem.W.Frag) : TS :=
  tSeq (tAsg (tOp rXL (tOp rXL (tVar 0) (tC (.int 0))) (tC (.int 0))) (gName 2)) (t_L_take_2 K)

/-- _law_take -/
def t_L_take (K : PySem.W.Frag) : TS :=
  tSeq (tIfS (tTest (tOp rEqE (tOp rXL (tVar 0) (tC (.int 0))) (xLst tNil))) (tSeq (tAsg (tOp (rI (fun _ j => 0 < j) fun i j => .int (i % j)) (tOp (rI CMul fun i j => .int (i * j)) (tOp rXL (tVar 0) (tC (.int 1))) (tC (.int 48271))) (tC (.int 2147483647))) (gSub (tVar 0) (tC (.int 1)) rStL))
    (tRet (tOp (rI (fun _ j => 0 < j) fun i j => .int (i % j)) (tOp (rI CDiv fun i j => .int (i / j)) (tOp rXL (tVar 0) (tC (.int 1))) (tC (.int 7))) (tVar 1)))) tNext) (t_L_take_1 K)

theorem map_int_head {ns : List Int} (h : ns.isEmpty = false) : ∃ n r, ns = n :: r := by
  cases ns with
  | nil => cases h
  | cons n r => exact ⟨n, r, rfl⟩
theorem rd_L_take {K : PySem.W.Frag} {vs : List V} {H : Hp} {Q : VK} {E : XK} (h : sp_L_take vs H Q E) : t_L_take K { nx := fun _ H' => Q .non H', rt := Q } (start ["_", "_", "_"] vs) H := by
  obtain ⟨b, l, m, rfl, ⟨ne, ns, s, hb, hl, s0, s1⟩, m0, m1, k⟩ := h
  show t_L_take K _ [some (.ref b), some (.int m), none] H
  unfold t_L_take
  refine st_seq ?_
  push_cast [hb]
  refine ⟨by decide, fun p H1 A => ⟨l, p, ns, rfl, rfl, A.k hl, A.at_, _, rfl, ?_⟩⟩
  cases e : ns.isEmpty with
  | true =>
    refine iteT (st_seq ?_)
    push_cast [A.k hb]
    refine ⟨.inl ⟨by omega, by omega⟩, by decide, ?_⟩
    intro H2 M
    push_cast [M.at_, List.set]
    have g0 : 0 ≤ s * 48271 % 2147483647 := Int.emod_nonneg _ (by decide)
    have g1 : s * 48271 % 2147483647 < 2147483647 := Int.emod_lt_of_pos _ (by decide)
    refine ⟨⟨by decide, by decide⟩, m0, ?_⟩
    exact k _ _ (Int.emod_nonneg _ (by omega)) (Int.emod_lt_of_pos _ m0) ⟨ne, ns, _, M.at_, M.k (A.k hl) ne.symm, g0, g1⟩ ((A.fr).mu M (by simp))
  | false =>
    refine iteF (st_seq ?_)
    obtain ⟨n, r, rfl⟩ := map_int_head e
    push_cast [A.k hb, A.k hl, List.map_cons]
    refine st_seq ?_
    push_cast [A.k hb, A.k hl, List.map_cons]
    refine ⟨⟨m0, m1⟩, fun H2 M => st_seq ?_⟩
    have hb2 := M.k (A.k hb) ne
    have hl2 : H2 l = some (.lst (.int (n / m) :: r.map V.int)) := M.at_
    have f2 : Fr [b, l] H H2 := A.fr.mu M (by simp)
    push_cast [hb2, hl2]
    refine ⟨by decide, fun q H3 A3 => ?_⟩
    push_cast [A3.at_]
    split
    · push_cast [A3.k hb2, A3.k hl2]
      intro H4 M4
      exact ⟨m0, k _ _ (Int.emod_nonneg _ (by omega)) (Int.emod_lt_of_pos _ m0) ⟨ne, r, s, M4.k (A3.k hb2) ne, M4.at_, s0, s1⟩ ((f2.al A3).mu M4 (by simp))⟩
    · exact ⟨m0, k _ _ (Int.emod_nonneg _ (by omega)) (Int.emod_lt_of_pos _ m0) ⟨ne, (n / m) :: r, s, A3.k hb2, A3.k hl2, s0, s1⟩ (f2.al A3)⟩

/-- kind_of -/
def t_kind_of (K : PySem.W.Frag) : TS :=
  (tSeq (tIfS (tB (tCB (rIs "str") (tCons (tVar 0) (tCons (tC (.ty "str")) tNil)))) (tRet (tC (.str (wd 24)))) tNext)
    (tRet (tC (.str (wd 23)))))

/-- is_so -/
def t_is_so (K : PySem.W.Frag) : TS :=
  (tRet (tAndV (tOp rNe (tVar 0) (tC (.int 0))) (tOp rNe (tVar 0) (tC (.str ("" : Str))))))

/-- of_numbers from 1 -/
def t_of_numbers_1 (K : PySem.W.Frag) : TS :=
  (tSeq (tIfS (tTest (tOp rEq (tVar 0) (tC (.str (wd 4))))) (tRet (tOp (rI (fun _ j => 0 < j) fun i j => .int (i % j)) (tOp (rI0 fun i j => .int (i - j)) (tVar 1) (tVar 2)) (tC (.int 10007)))) tNext)
    (tRet (tCB rInt1 (tCons (tOp (rI0 fun i j => .bl (decide (i < j))) (tVar 1) (tVar 2)) tNil))))

/-- of_numbers -/
def t_of_numbers (K : PySem.W.Frag) : TS :=
  tSeq (tIfS (tTest (tOp rEq (tVar 0) (tC (.str (wd 3))))) (tRet (tOp (rI (fun _ j => 0 < j) fun i j => .int (i % j)) (tOp (rI0 fun i j => .int (i + j)) (tVar 1) (tVar 2)) (tC (.int 10007)))) tNext) (t_of_numbers_1 K)

/-- worked from 2 -/
def t_worked_2 (K : PySem.W.Frag) : TS :=
  (tSeq (tIfS (tTest (tOp rEq (tCall sp_kind_of [] E0 (tCons (tVar 1) tNil)) (tC (.str (wd 23))))) (tRet (tCall sp_of_numbers [] E0 (tCons (tVar 0) (tCons (tVar 1) (tCons (tVar 2) tNil))))) tNext)
    (tRet (tCall sp_of_texts [] E0 (tCons (tVar 0) (tCons (tVar 1) (tCons (tVar 2) tNil))))))

/-- worked from 1 -/
def t_worked_1 (K : PySem.W.Frag) : TS :=
  tSeq (tIfS (tTest (tOp rNe (tCall sp_kind_of [] E0 (tCons (tVar 1) tNil)) (tCall sp_kind_of [] E0 (tCons (tVar 2) tNil)))) (tRet (tC .non)) tNext) (t_worked_2 K)

/-- worked -/
def t_worked (K : PySem.W.Frag) : TS :=
  tSeq (tIfS (tTest (tOp rEq (tVar 0) (tC (.str (wd 6))))) (tRet (tCB rInt1 (tCons (tAndV (tOp rEq (tCall sp_kind_of [] E0 (tCons (tVar 1) tNil)) (tCall sp_kind_of [] E0 (tCons (tVar 2) tNil))) (tOp rEq (tVar 1) (tVar 2))) tNil))) tNext) (t_worked_1 K)

/-- _law_worked from 3 -/
def t_L_worked_3 (K : PySem.W.Frag) : TS :=
  (tSeq (tIfS (tB (tCB (rIs "str") (tCons (tVar 1) (tCons (tC (.ty "str")) tNil)))) (tRet (tCall sp_L_of_texts [] E0 (tCons (tVar 0) (tCons (tVar 1) (tCons (tVar 2) tNil))))) tNext)
    (tRet (tOp rXL (xLst (tCons (tOp (rI (fun _ j => 0 < j) fun i j => .int (i % j)) (tOp (rI0 fun i j => .int (i + j)) (tVar 1) (tVar 2)) (tC (.int 10007))) (tCons (tOp (rI (fun _ j => 0 < j) fun i j => .int (i % j)) (tOp (rI0 fun i j => .int (i - j)) (tVar 1) (tVar 2)) (tC (.int 10007))) (tCons (tCB rInt1 (tCons (tOp (rI0 fun i j => .bl (decide (i < j))) (tVar 1) (tVar 2)) tNil)) tNil)))) (tIndex (xLst (tCons (tC (.str (wd 3))) (tCons (tC (.str (wd 4))) (tCons (tC (.str (wd 5))) tNil)))) (tVar 0)))))

/-- _law_worked from 2 -/
def t_L_worked_2 (K : PySem.W.Frag) : TS :=
  tSeq (tIfS (tNot (tB (tVar 3))) (tRet (tC .non)) tNext) (t_L_worked_3 K)

/-- _law_worked from 1 -/
def t_L_worked_1 (K : PySem.W.Frag) : TS :=
  tSeq (tIfS (tTest (tOp rEq (tVar 0) (tC (.str (wd 6))))) (tRet (tCB rInt1 (tCons (tAndV (tVar 3) (tOp rEq (tVar 1) (tVar 2))) tNil))) tNext) (t_L_worked_2 K)

/-- _law_worked -/
def t_L_worked (K : PySem.W.Frag) : TS :=
  tSeq (tAsg (tOp rEq (tCB (rIs "str") (tCons (tVar 1) (tCons (tC (.ty "str")) tNil))) (tCB (rIs "str") (tCons (tVar 2) (tCons (tC (.ty "str")) tNil)))) (gName 3)) (t_L_worked_1 K)

/-- _law_is_so -/
def t_L_is_so (K : PySem.W.Frag) : TS :=
  (tRet (tOp (rInT true) (tVar 0) (xTup (tCons (tC (.int 0)) (tCons (tC (.str ("" : Str))) tNil)))))

/-- _law_value -/
def t_L_value (K : PySem.W.Frag) : TS :=
  (tSeq (tIfS (tTest (tOp rEq (tCall sp_L_take [] E0 (tCons (tVar 0) (tCons (tC (.int 3)) tNil))) (tC (.int 1)))) (tRet (tCall sp_L_text [] E0 (tCons (tVar 0) tNil))) tNext)
    (tRet (tOp rXL (xLst (tCons (tCall sp_L_take [] E0 (tCons (tVar 0) (tCons (tC (.int 4)) tNil))) (tCons (tCall sp_L_take [] E0 (tCons (tVar 0) (tCons (tC (.int 10007)) tNil))) tNil))) (tCall sp_L_take [] E0 (tCons (tVar 0) (tCons (tC (.int 2)) tNil))))))

/-- _law_alike from 6 -/
def t_L_alike_6 (K : PySem.W.Frag) (n : Nat) : TS :=
  (tSeq (tFor (iRng1 (tCons (tCB rLenQ (tCons (tVar 1) tNil)) tNil)) (gName 2)
    (tIfS (tNot (tB (tCall (sp_L_alike n) [] E0 (tCons (tOp rXQ (tVar 0) (tVar 2)) (tCons (tOp rXQ (tVar 1) (tVar 2)) tNil))))) (tRet (tC (.bl false))) tNext))
    (tRet (tC (.bl true))))

/-- _law_alike from 5 -/
def t_L_alike_5 (K : PySem.W.Frag) (n : Nat) : TS :=
  tSeq (tIfS (tTest (tOp rNe (tCB rLenQ (tCons (tVar 0) tNil)) (tCB rLenQ (tCons (tVar 1) tNil)))) (tRet (tC (.bl false))) tNext) (t_L_alike_6 K n)

/-- _law_alike from 4 -/
def t_L_alike_4 (K : PySem.W.Frag) (n : Nat) : TS :=
  tSeq (tIfS (tOr (tTest (tOp rNe (tCB (rIs "tuple") (tCons (tVar 1) (tCons (tC (.ty "tuple")) tNil))) (tCB (rIs "tuple") (tCons (tVar 0) (tCons (tC (.ty "tuple")) tNil))))) (tTest (tOp rNe (tCB (rIs "list") (tCons (tVar 1) (tCons (tC (.ty "list")) tNil))) (tCB (rIs "list") (tCons (tVar 0) (tCons (tC (.ty "list")) tNil)))))) (tRet (tC (.bl false))) tNext) (t_L_alike_5 K n)

/-- _law_alike from 3 -/
def t_L_alike_3 (K : PySem.W.Frag) (n : Nat) : TS :=
  tSeq (tIfS (tB (tCB (rIs "str") (tCons (tVar 1) (tCons (tC (.ty "str")) tNil)))) (tRet (tAndV (tCB (rIs "str") (tCons (tVar 0) (tCons (tC (.ty "str")) tNil))) (tOp rEq (tVar 0) (tVar 1)))) tNext) (t_L_alike_4 K n)

/-- _law_alike from 2 -/
def t_L_alike_2 (K : PySem.W.Frag) (n : Nat) : TS :=
  tSeq (tIfS (tB (tCB (rIs "int") (tCons (tVar 1) (tCons (tC (.ty "int")) tNil)))) (tRet (tAndV (tCB (rIs "int") (tCons (tVar 0) (tCons (tC (.ty "int")) tNil))) (tAndV (tNotV (tCB (rIs "bool") (tCons (tVar 0) (tCons (tC (.ty "bool")) tNil)))) (tOp rEq (tVar 0) (tVar 1))))) tNext) (t_L_alike_3 K n)

/-- _law_alike from 1 -/
def t_L_alike_1 (K : PySem.W.Frag) (n : Nat) : TS :=
  tSeq (tIfS (tB (tCB (rIs "bool") (tCons (tVar 1) (tCons (tC (.ty "bool")) tNil)))) (tRet (tAndV (tCB (rIs "bool") (tCons (tVar 0) (tCons (tC (.ty "bool")) tNil))) (tOp rEq (tVar 0) (tVar 1)))) tNext) (t_L_alike_2 K n)

/-- _law_alike -/
def t_L_alike (K : PySem.W.Frag) (n : Nat) : TS :=
  tSeq (tIfS (tTest (tOp rIsN (tVar 1) (tC .non))) (tRet (tOp rIsN (tVar 0) (tC .non))) tNext) (t_L_alike_1 K n)

/-! ### isinstance of values -/
theorem kitB_ss : kitB "str" "str" = some true := by decide +kernel
theorem kitB_is : kitB "int" "str" = some false := by decide +kernel
theorem is_str (x : Vl) (H : Hp) (Q : VK) : rIs "str" [x.v, .ty "str"] H Q ↔ Q (.bl (match x with | .n _ => false | .t _ => true)) H := by
  constructor
  · rintro ⟨y, b, e, ⟨n, hn, hk⟩, q⟩
    have e' := (List.cons.inj e).1
    subst e'
    cases x with
    | n i => cases (show n = "int" from hn); rw [kitB_is] at hk; cases hk; exact q
    | t z => cases (show n = "str" from hn); rw [kitB_ss] at hk; cases hk; exact q
  · intro q
    cases x with
    | n i => exact ⟨_, _, rfl, ⟨"int", rfl, kitB_is⟩, q⟩
    | t z => exact ⟨_, _, rfl, ⟨"str", rfl, kitB_ss⟩, q⟩
theorem rd_kind_of {K : PySem.W.Frag} {vs : List V} {H : Hp} {Q : VK} {E : XK} (h : sp_kind_of vs H Q E) : t_kind_of K { nx := fun _ H' => Q .non H', rt := Q } (start ["_"] vs) H := by
  obtain ⟨x, rfl, k⟩ := h
  show t_kind_of K _ [some x.v] H
  unfold t_kind_of
  refine st_seq ?_
  push_cast [is_str]
  cases x with
  | n i => push_cast; exact k
  | t z => push_cast; exact k
theorem rd_is_so {K : PySem.W.Frag} {vs : List V} {H : Hp} {Q : VK} {E : XK} (h : sp_is_so vs H Q E) : t_is_so K { nx := fun _ H' => Q .non H', rt := Q } (start ["_"] vs) H := by
  obtain ⟨x, rfl, k⟩ := h
  show t_is_so K _ [some x.v] H
  unfold t_is_so
  have k0 := k H (.refl _ _)
  cases x with
  | n i =>
    push_cast [Vl.v]
    simp only [Vl.so] at k0
    split
    · next h => rw [decide_eq_false h] at k0; exact k0
    · next h => rw [decide_eq_true (by simpa using h)] at k0; exact k0
  | t z => push_cast [Vl.v]; exact k0
theorem rd_L_is_so {K : PySem.W.Frag} {vs : List V} {H : Hp} {Q : VK} {E : XK} (h : sp_L_is_so vs H Q E) : t_L_is_so K { nx := fun _ H' => Q .non H', rt := Q } (start ["_"] vs) H := by
  obtain ⟨x, rfl, k⟩ := h
  show t_L_is_so K _ [some x.v] H
  unfold t_L_is_so
  push_cast
  refine ⟨by decide, fun p H1 A => ?_⟩
  have k0 := k H1 A.fr
  cases x with
  | n i =>
    push_cast [Vl.v, A.at_]
    simp only [Vl.so] at k0
    rw [show decide (0 = i) = decide (i = 0) from by simp [eq_comm]]
    exact k0
  | t z =>
    push_cast [Vl.v, A.at_]
    simp only [Vl.so] at k0
    rw [show decide (("" : Str) = z) = decide (z = ("" : Str)) from by simp [eq_comm]]
    exact k0
theorem rd_of_numbers {K : PySem.W.Frag} {vs : List V} {H : Hp} {Q : VK} {E : XK} (h : sp_of_numbers vs H Q E) : t_of_numbers K { nx := fun _ H' => Q .non H', rt := Q } (start ["_", "_", "_"] vs) H := by
  obtain ⟨s, i, j, rfl, hs, k⟩ := h
  show t_of_numbers K _ [some (.str s.s), some (.int i), some (.int j)] H
  unfold t_of_numbers
  refine st_seq ?_
  cases s with
  | add => push_cast [Sg.s, Sg.ix]; exact ⟨by decide, k⟩
  | sub => push_cast [Sg.s, Sg.ix]; refine st_seq ?_; push_cast [Sg.s, Sg.ix]; exact ⟨by decide, k⟩
  | less => push_cast [Sg.s, Sg.ix]; refine st_seq ?_; push_cast [Sg.s, Sg.ix]; simpa [ov, wk, Vl.v, b2n] using k
  | same => exact absurd rfl hs
theorem sg_eq (s : Sg) (i : Nat) (hi : i < 42) : (s.s = wd i) = (s.ix = i) := wd_eq (by cases s <;> decide) hi
theorem kd_eq (x y : Vl) : (x.kd = y.kd) = ((match x with | .n _ => true | .t _ => false) = (match y with | .n _ => true | .t _ => false)) := by
  cases x <;> cases y <;> simp only [Vl.kd] <;> first | (rw [wd_eq (by decide) (by decide)] <;> simp) | simp
theorem scal_v (x y : Vl) : scal x.v y.v = true := by cases x <;> cases y <;> rfl
theorem rd_worked {K : PySem.W.Frag} {vs : List V} {H : Hp} {Q : VK} {E : XK} (h : sp_worked vs H Q E) : t_worked K { nx := fun _ H' => Q .non H', rt := Q } (start ["_", "_", "_"] vs) H := by
  obtain ⟨s, x, y, rfl, hx, hy, k⟩ := h
  show t_worked K _ [some (.str s.s), some x.v, some y.v] H
  unfold t_worked
  refine st_seq ?_
  push_cast [sg_eq]
  by_cases hs : s = .same
  · subst hs
    simp only [Sg.ix]
    push_cast
    refine ⟨x, rfl, y, rfl, ?_⟩
    push_cast [scal_v, kd_eq, Vl.v_inj]
    have k0 := k H (.refl _ _)
    cases x <;> cases y <;> simp_all [ov, wk, b2n, Vl.v]
  · have e : ¬ s.ix = 6 := by cases s <;> simp_all [Sg.ix]
    rw [if_neg e]
    refine st_seq ?_
    push_cast
    refine ⟨x, rfl, y, rfl, ?_⟩
    push_cast [kd_eq]
    cases x with
    | n i =>
      cases y with
      | n j =>
        push_cast
        refine st_seq ?_
        push_cast
        refine ⟨.n i, rfl, ?_⟩
        push_cast [Vl.kd]
        exact ⟨s, i, j, rfl, hs, k H (.refl _ _)⟩
      | t b =>
        push_cast
        have k0 := k H (.refl _ _)
        cases s <;> first | exact absurd rfl hs | exact k0
    | t a =>
      cases y with
      | n j =>
        push_cast
        have k0 := k H (.refl _ _)
        cases s <;> first | exact absurd rfl hs | exact k0
      | t b =>
        push_cast
        refine st_seq ?_
        push_cast
        refine ⟨.t a, rfl, ?_⟩
        push_cast [Vl.kd]
        exact ⟨s, a, b, rfl, hs, hx, hy, k⟩
theorem idx3 (s : Sg) (hs : s ≠ .same) : s.ix - 3 < 3 ∧ ∃ z, [V.str (wd 3), V.str (wd 4), V.str (wd 5)][s.ix - 3]? = some z ∧ eqV z (.str s.s) = true ∧
    ∀ (m : Nat) (z' : V), m < s.ix - 3 → [V.str (wd 3), V.str (wd 4), V.str (wd 5)][m]? = some z' → eqV z' (.str s.s) = false := by
  have ne : ∀ i j, i < 42 → j < 42 → i ≠ j → eqV (.str (wd i)) (.str (wd j)) = false := fun i j hi hj h => by rw [eqV_str]; exact decide_eq_false fun e => h (by rw [wd_eq hi hj] at e; exact e)
  have eq : ∀ i, eqV (.str (wd i)) (.str (wd i)) = true := fun i => by rw [eqV_str]; simp
  cases s with
  | add => exact ⟨by decide, _, rfl, eq 3, fun m z' h _ => absurd h (Nat.not_lt_zero _)⟩
  | sub =>
    refine ⟨by decide, _, rfl, eq 4, fun m z' h e => ?_⟩
    have hm : m = 0 := by simp only [Sg.ix] at h; omega
    subst hm
    cases e
    exact ne 3 4 (by decide) (by decide) (by decide)
  | less =>
    refine ⟨by decide, _, rfl, eq 5, fun m z' h e => ?_⟩
    have hm : m = 0 ∨ m = 1 := by simp only [Sg.ix] at h; omega
    rcases hm with hm | hm
    · subst hm
      cases e
      exact ne 3 5 (by decide) (by decide) (by decide)
    · subst hm
      cases e
      exact ne 4 5 (by decide) (by decide) (by decide)
  | same => exact absurd rfl hs
theorem rd_L_worked {K : PySem.W.Frag} {vs : List V} {H : Hp} {Q : VK} {E : XK} (h : sp_L_worked vs H Q E) : t_L_worked K { nx := fun _ H' => Q .non H', rt := Q } (start ["_", "_", "_", "_"] vs) H := by
  obtain ⟨s, x, y, rfl, hx, hy, k⟩ := h
  show t_L_worked K _ [some (.str s.s), some x.v, some y.v, none] H
  unfold t_L_worked
  refine st_seq ?_
  push_cast [is_str]
  refine st_seq ?_
  push_cast [sg_eq]
  by_cases hs : s = .same
  · subst hs
    simp only [Sg.ix]
    have k0 := k H (.refl _ _)
    push_cast [scal_v, Vl.v_inj]
    cases x <;> cases y <;> simp_all [ov, wk, b2n, Vl.v]
  · have e : ¬ s.ix = 6 := by cases s <;> simp_all [Sg.ix]
    rw [if_neg e]
    refine st_seq ?_
    cases x with
    | n i =>
      cases y with
      | n j =>
        push_cast
        refine st_seq ?_
        push_cast [is_str]
        push_cast [Vl.v]
        refine ⟨by decide, by decide, (by simp only [List.length_cons, List.length_nil]; decide), fun p H1 A => ⟨(by simp only [List.length_cons, List.length_nil]; decide), fun q H2 B => ?_⟩⟩
        have k0 := k H2 (A.fr.al B)
        push_cast [B.at_]
        obtain ⟨hj, z, h1, h2, h3⟩ := idx3 s hs
        refine ⟨s.ix - 3, z, h1, h2, h3, ?_⟩
        push_cast [B.k A.at_]
        cases s with
        | add => exact ⟨_, atI0 _ _, k0⟩
        | sub => exact ⟨_, atI1 _ _ _, k0⟩
        | less => refine ⟨_, atI2 _ _ _ _, ?_⟩; simpa [ov, wk, Vl.v, b2n] using k0
        | same => exact absurd rfl hs
      | t b =>
        push_cast
        have k0 := k H (.refl _ _)
        cases s <;> first | exact absurd rfl hs | exact k0
    | t a =>
      cases y with
      | n j =>
        push_cast
        have k0 := k H (.refl _ _)
        cases s <;> first | exact absurd rfl hs | exact k0
      | t b =>
        push_cast
        refine st_seq ?_
        push_cast [is_str]
        exact ⟨s, a, b, rfl, hs, hx, hy, k⟩

/-- _law_text from 1 -/
def t_L_text_1 (K : PySem.W.Frag) : TS :=
  (tSeq (tAsg (tOp rXL (xLst (tCons (tCall sp_L_take [] E0 (tCons (tVar 0) (tCons (tC (.int 3)) tNil))) (tCons (tCall sp_L_take [] E0 (tCons (tVar 0) (tCons (tC (.int 13)) tNil))) tNil))) (tCB rInt1 (tCons (tOp rEq (tCall sp_L_take [] E0 (tCons (tVar 0) (tCons (tC (.int 8)) tNil))) (tC (.int 1))) tNil))) (gName 2))
    (tRet (tJoinL (tC (.str ("" : Str))) (tLc (iRng1 (tCons (tVar 2) tNil)) (gName 3) tYes (tOp rIxS (tVar 1) (tCall sp_L_take [] E0 (tCons (tVar 0) (tCons (tCB rLenS (tCons (tVar 1) tNil)) tNil)))) [3]))))

/-- _law_text -/
def t_L_text (K : PySem.W.Frag) : TS :=
  tSeq (tAsg (tOp rXL (xLst (tCons (tC (.str ("abz" : Str))) (tCons (tC (.str ("abcdefghijklmnopqrstuvwxyz" : Str))) tNil))) (tCall sp_L_take [] E0 (tCons (tVar 0) (tCons (tC (.int 2)) tNil)))) (gName 1)) (t_L_text_1 K)

/-- of_texts from 1 -/
def t_of_texts_1 (K : PySem.W.Frag) : TS :=
  (tSeq (tIfS (tTest (tOp rEq (tVar 0) (tC (.str (wd 4))))) (tRet (tJoinL (tC (.str ("" : Str))) (tLc (iStr (tVar 1)) (gName 3) (tTest (tOp rNinS1 (tVar 3) (tVar 2))) (tVar 3) [3]))) tNext)
    (tRet (tCB rInt1 (tCons (tOp rLtS (tVar 1) (tVar 2)) tNil))))

/-- of_texts -/
def t_of_texts (K : PySem.W.Frag) : TS :=
  tSeq (tIfS (tTest (tOp rEq (tVar 0) (tC (.str (wd 3))))) (tRet (tSl rSlS (tOp rAddS (tVar 1) (tVar 2)) tNoPart (tPart (tC (.int 12))))) tNext) (t_of_texts_1 K)

/-- _law_of_texts from 1 -/
def t_L_of_texts_1 (K : PySem.W.Frag) : TS :=
  (tSeq (tIfS (tTest (tOp rEq (tVar 0) (tC (.str (wd 5))))) (tRet (tCB rInt1 (tCons (tOp rLtS (tVar 1) (tVar 2)) tNil))) tNext)
    (tRet (tJoinL (tC (.str ("" : Str))) (tLc (iStr (tVar 1)) (gName 3) (tTest (tOp rNinS1 (tVar 3) (tVar 2))) (tVar 3) [3]))))

/-- _law_of_texts -/
def t_L_of_texts (K : PySem.W.Frag) : TS :=
  tSeq (tIfS (tTest (tOp rEq (tVar 0) (tC (.str (wd 3))))) (tRet (tSl rSlS (tOp rAddS (tVar 1) (tVar 2)) tNoPart (tPart (tC (.int 12))))) tNext) (t_L_of_texts_1 K)

/-- _law_script -/
def t_L_script (K : PySem.W.Frag) : TS :=
  (tSeq (tAsg (tOp (rI (fun _ j => 0 < j) fun i j => .int (i % j)) (tCB (rSum K) (tCons (tLc (iEnum K (tCons (tVar 0) tNil)) (gTup K 2 (gCons (gName 2) (gCons (gName 3) gNil))) tYes (tOp (rI CMul fun i j => .int (i * j)) (tOp (rI0 fun i j => .int (i + j)) (tVar 2) (tC (.int 1))) (tOp (rI (fun _ j => 0 < j) fun i j => .int (i % j)) (tVar 3) (tC (.int 69621)))) [2, 3]) tNil)) (tC (.int 2147483647))) (gName 1))
    (tRet (xLst (tCons (tCB (rLstK K) (tCons (tVar 0) tNil)) (tCons (tOp (rI CMul fun i j => .int (i * j)) (tVar 1) (tCB rInt1 (tCons (tOp (rI0 fun i j => .bl (decide (j < i))) (tCB (rLenK K) (tCons (tVar 0) tNil)) (tC (.int 2))) tNil))) tNil)))))

theorem rd_L_value {K : PySem.W.Frag} {vs : List V} {H : Hp} {Q : VK} {E : XK} (h : sp_L_value vs H Q E) : t_L_value K { nx := fun _ H' => Q .non H', rt := Q } (start ["_"] vs) H := by
  obtain ⟨b, l, rfl, B, k⟩ := h
  show t_L_value K _ [some (.ref b)] H
  unfold t_L_value
  refine st_seq ?_
  push_cast
  refine ⟨b, l, 3, rfl, B, by decide, by decide, fun r H1 r0 r1 B1 f1 => ?_⟩
  push_cast
  split
  · exact ⟨b, l, rfl, B1, fun z H2 hz B2 f2 => k (.t z) H2 hz B2 (f1.trans f2)⟩
  · refine ⟨b, l, 4, rfl, B1, by decide, by decide, fun x H2 x0 x1 B2 f2 => ?_⟩
    refine ⟨b, l, 10007, rfl, B2, by decide, by decide, fun y H3 y0 y1 B3 f3 => ?_⟩
    push_cast
    refine ⟨(by simp only [List.length_cons, List.length_nil]; decide), fun p H4 A => ?_⟩
    have B4 := B3.keep A.fr
    refine ⟨b, l, 2, rfl, B4, by decide, by decide, fun z H5 z0 z1 B5 f5 => ?_⟩
    have hp : H5 p = some (.lst [.int x, .int y]) := by
      refine f5.keep _ _ A.at_ ?_
      obtain ⟨_, _, _, h1, h2, _⟩ := B3
      simp only [List.mem_cons, List.not_mem_nil, or_false, not_or]
      exact ⟨fun e => ne_of_none h1 A.new e.symm, fun e => ne_of_none h2 A.new e.symm⟩
    push_cast [hp]
    have fr : Fr [b, l] H H5 := (((f1.trans f2).trans f3).al A).trans f5
    have hz : z = 0 ∨ z = 1 := by omega
    rcases hz with hz | hz
    · subst hz
      exact ⟨_, atI0 _ _, k (.n x) _ ⟨x0, by omega⟩ B5 fr⟩
    · subst hz
      exact ⟨_, atI1 _ _ _, k (.n y) _ ⟨y0, by omega⟩ B5 fr⟩
theorem BoxAt.off {H : Hp} {b l p : Addr} (B : BoxAt H b l) (h : H p = none) : p ∉ [b, l] := by
  obtain ⟨_, _, _, h1, h2, _⟩ := B
  simp only [List.mem_cons, List.not_mem_nil, or_false, not_or]
  exact ⟨fun e => ne_of_none h1 h e.symm, fun e => ne_of_none h2 h e.symm⟩
theorem BoxAt.mu {H H' : Hp} {b l p : Addr} {o : HO} (B : BoxAt H b l) (M : Mu H p o H') (hp : p ∉ [b, l]) : BoxAt H' b l := by
  obtain ⟨ne, ns, s, h1, h2, h3⟩ := B
  simp only [List.mem_cons, List.not_mem_nil, or_false, not_or] at hp
  exact ⟨ne, ns, s, M.k h1 fun e => hp.1 e.symm, M.k h2 fun e => hp.2 e.symm, h3⟩
def Lets (z : Str) : Prop := 0 < z.cps.toList.length ∧ z.cps.toList.length ≤ 26 ∧ ∀ c ∈ z.cps.toList, 97 ≤ c ∧ c < 123
theorem lets3 : Lets ("abz" : Str) := by unfold Lets; decide +kernel
theorem lets26 : Lets ("abcdefghijklmnopqrstuvwxyz" : Str) := by unfold Lets; decide +kernel
theorem slen (z : Str) : z.length = z.cps.toList.length := by
  show z.cps.size = _
  simp
theorem joinL_one : ∀ l : List Nat, TL.joinL [] (l.map fun c => [c]) = l
  | [] => rfl
  | [_] => rfl
  | a :: b :: r => by
    have q := joinL_one (b :: r)
    show [a] ++ ([] ++ TL.joinL [] ((b :: r).map fun c => [c])) = a :: b :: r
    rw [q]
    rfl
theorem tl_empty : TL.tl ("" : Str) = [] := by decide +kernel
/-- letters, joined -/
theorem join_letters (l : List Nat) : Txt.join ("" : Str) (l.map fun c => (⟨#[c]⟩ : Str)) = ⟨l.toArray⟩ := by
  rw [TL.join_eq]
  have h : TL.tl (Str.join ("" : Str) (l.map fun c => (⟨#[c]⟩ : Str))) = l := by
    rw [TL.tl_join, tl_empty, List.map_map]
    exact joinL_one l
  have e : ∀ x : Str, x = ⟨(TL.tl x).toArray⟩ := fun x => by
    show x = ⟨x.cps.toList.toArray⟩
    simp
  rw [e (Str.join _ _), h]
theorem sum_ones (l : List Nat) : ((l.map fun c => (⟨#[c]⟩ : Str)).map (·.length)).sum = l.length := by
  induction l with
  | nil => rfl
  | cons a r ih =>
    rw [List.map_cons, List.map_cons, List.sum_cons, ih]
    show 1 + r.length = r.length + 1
    omega
theorem rd_L_text {K : PySem.W.Frag} {vs : List V} {H : Hp} {Q : VK} {E : XK} (h : sp_L_text vs H Q E) : t_L_text K { nx := fun _ H' => Q .non H', rt := Q } (start ["_", "_", "_", "_"] vs) H := by
  obtain ⟨b, l, rfl, B, k⟩ := h
  show t_L_text K _ [some (.ref b), none, none, none] H
  unfold t_L_text
  refine st_seq ?_
  push_cast
  refine ⟨(by simp only [List.length_cons, List.length_nil]; decide), fun p H1 A1 => ?_⟩
  have B1 := B.keep A1.fr
  refine ⟨b, l, 2, rfl, B1, by decide, by decide, fun r H2 r0 r1 B2 f2 => ?_⟩
  have hp : H2 p = _ := f2.keep _ _ A1.at_ (B.off A1.new)
  have fr2 : Fr [b, l] H H2 := A1.fr.trans f2
  have hl : ∃ z, atI [V.str ("abz" : Str), V.str ("abcdefghijklmnopqrstuvwxyz" : Str)] r = some (.str z) ∧ Lets z := by
    have hz : r = 0 ∨ r = 1 := by omega
    rcases hz with hz | hz
    · subst hz; exact ⟨_, atI0 _ _, lets3⟩
    · subst hz; exact ⟨_, atI1 _ _ _, lets26⟩
  obtain ⟨z, ez, lz⟩ := hl
  push_cast [hp, ez]
  refine st_seq ?_
  push_cast
  refine ⟨b, l, 3, rfl, B2, by decide, by decide, fun x H3 x0 x1 B3 f3 => ?_⟩
  refine ⟨b, l, 13, rfl, B3, by decide, by decide, fun y H4 y0 y1 B4 f4 => ?_⟩
  push_cast
  refine ⟨(by simp only [List.length_cons, List.length_nil]; decide), fun p5 H5 A5 => ?_⟩
  refine ⟨b, l, 8, rfl, B4.keep A5.fr, by decide, by decide, fun u H6 u0 u1 B6 f6 => ?_⟩
  have hp6 : H6 p5 = _ := f6.keep _ _ A5.at_ (B4.off A5.new)
  have fr6 : Fr [b, l] H H6 := (((fr2.trans f3).trans f4).al A5).trans f6
  have hl : ∃ m, atI [V.int x, V.int y] (if u = 1 then 1 else 0) = some (.int m) ∧ 0 ≤ m ∧ m < 13 := by
    split
    · exact ⟨_, atI1 _ _ _, y0, y1⟩
    · exact ⟨_, atI0 _ _, x0, by omega⟩
  obtain ⟨m, em, m0, m1⟩ := hl
  push_cast [hp6, em]
  refine lcR (n := m) (fun R h => ⟨_, rfl, h⟩) m0 (by omega) fun L hL => ?_
  refine ⟨fun i Hc => ∃ cs : List Nat, cs.length = i ∧ (∀ c ∈ cs, 97 ≤ c ∧ c < 123) ∧ Hc L = some (.lst ((cs.map fun c => (⟨#[c]⟩ : Str)).map V.str)) ∧ BoxAt Hc b l ∧ Fr [b, l] H6 Hc, ?_, ?_, ?_⟩
  · refine ⟨[], rfl, by simp, upd_same, B6.keep (Al.of hL).fr, (Al.of hL).fr⟩
  · rintro i Hc hi ⟨cs, hc1, hc2, hc3, hc4, hc5⟩
    show LcTurn _ _ _ _ _ _ _ _ _
    unfold LcTurn
    push_cast [wipe, tYes]
    have zs : z.length ≤ sizeLine := by rw [slen]; exact Nat.le_trans lz.2.1 (by decide)
    refine ⟨zs, b, l, _, rfl, hc4, by rw [slen]; have := lz.1; omega, by rw [slen]; have := lz.2.1; omega, fun r' H7 q0 q1 B7 f7 => ?_⟩
    push_cast
    rw [slen] at q1
    obtain ⟨c, ec, mc⟩ := atI_of q0 q1
    have oL := B6.off hL
    have hL7 : H7 L = _ := f7.keep _ _ hc3 oL
    have M := Mu.of (o := .lst ((cs.map fun c => (⟨#[c]⟩ : Str)).map V.str ++ [.str ⟨#[c]⟩])) hL7 fun _ z => by cases z
    refine ⟨zs, c, ec, _, hL7, ?_, cs ++ [c], ?_, ?_, ?_, B7.mu M oL, (hc5.trans f7).muN M hL⟩
    · simp only [List.length_map]; exact Nat.lt_of_le_of_lt (m := 13) (by omega) (by decide)
    · simp [hc1]
    · intro x hx
      rcases List.mem_append.mp hx with hx | hx
      · exact hc2 x hx
      · rw [List.mem_singleton.mp hx]; exact lz.2.2 c mc
    · simp
  · rintro Hc ⟨cs, hc1, hc2, hc3, hc4, hc5⟩
    refine ⟨L, rfl, _, hc3, ?_, ?_⟩
    · rw [sum_ones, List.length_map]
      show cs.length + cs.length * 0 ≤ _
      omega
    · rw [join_letters]
      exact k _ _ ⟨by simp; omega, by simpa using hc2⟩ hc4 (fr6.trans hc5)
theorem tl12 {z : Str} (h : Txt12 z) : z.length ≤ 12 := by rw [slen]; exact h.1
/-- letters of one that don't stand in the other -/
theorem lc_sub {a c : Str} {σ : L2.St} {H : Hp} {Q : VK} (i1 : σ[1]? = some (some (.str a))) (i2 : σ[2]? = some (some (.str c))) (l3 : 3 < σ.length) (ha : Txt12 a)
    (k : ∀ H', Fr [] H H' → Q (.str (subT a c)) H') : tJoinL (tC (.str ("" : Str))) (tLc (iStr (tVar 1)) (gName 3) (tTest (tOp rNinS1 (tVar 3) (tVar 2))) (tVar 3) [3]) σ H Q := by
  refine ⟨_, rfl, ?_⟩
  refine lcS (z := a) (fun R h => ⟨_, i1, h⟩) fun L hL => ?_
  refine ⟨fun i Hc => ∃ cs : List Nat, cs = (a.cps.toList.take i).filter (fun x => !decide (x ∈ c.cps.toList)) ∧ Hc L = some (.lst ((cs.map fun c => (⟨#[c]⟩ : Str)).map V.str)) ∧ Fr [] H Hc, ?_, ?_, ?_⟩
  · exact ⟨[], by simp, upd_same, (Al.of hL).fr⟩
  · rintro i x Hc hx ⟨cs, h1, h2, h3⟩
    have hlen : i < a.cps.toList.length := (List.getElem?_eq_some_iff.mp hx).1
    have tk : a.cps.toList.take (i + 1) = a.cps.toList.take i ++ [x] := by rw [List.take_succ, hx]; rfl
    refine ⟨by simp [wipe, List.set_set], ?_⟩
    have g3 : ((wipe σ [3]).set 3 (some (V.str ⟨#[x]⟩)))[3]? = some (some (V.str ⟨#[x]⟩)) := by simp [wipe, l3]
    have g2 : ((wipe σ [3]).set 3 (some (V.str ⟨#[x]⟩)))[2]? = some (some (V.str c)) := by simp [wipe, i2]
    refine ⟨_, g3, _, g2, x, c, rfl, rfl, _, rfl, ?_⟩
    by_cases hm : x ∈ c.cps.toList
    · rw [decide_eq_true hm]
      refine iteF ⟨cs, ?_, h2, h3⟩
      rw [tk, List.filter_append, ← h1, List.filter_cons, decide_eq_true hm]
      simp
    · rw [decide_eq_false hm]
      refine iteT ⟨_, g3, _, h2, ?_, cs ++ [x], ?_, ?_, ?_⟩
      · have := List.length_filter_le (fun x => !decide (x ∈ c.cps.toList)) (a.cps.toList.take i)
        rw [← h1] at this
        have h12 := ha.1
        simp only [List.length_map]
        rw [List.length_take] at this
        exact Nat.lt_of_le_of_lt (m := 12) (by omega) (by decide)
      · rw [tk, List.filter_append, ← h1, List.filter_cons, decide_eq_false hm]
        rfl
      · rw [upd_same]; simp
      · exact h3.muN (Mu.of h2 fun _ z => by cases z) hL
  · rintro Hc ⟨cs, h1, h2, h3⟩
    rw [List.take_length] at h1
    refine ⟨L, _, rfl, h2, ?_, ?_⟩
    · have := List.length_filter_le (fun x => !decide (x ∈ c.cps.toList)) a.cps.toList
      rw [← h1] at this
      have h12 := ha.1
      rw [sum_ones, List.length_map]
      show cs.length + cs.length * 0 ≤ _
      omega
    · rw [join_letters, h1]
      exact k _ h3
theorem rd_of_texts {K : PySem.W.Frag} {vs : List V} {H : Hp} {Q : VK} {E : XK} (h : sp_of_texts vs H Q E) : t_of_texts K { nx := fun _ H' => Q .non H', rt := Q } (start ["_", "_", "_", "_"] vs) H := by
  obtain ⟨s, a, b, rfl, hs, ha, hb, k⟩ := h
  show t_of_texts K _ [some (.str s.s), some (.str a), some (.str b), none] H
  unfold t_of_texts
  have z1 := tl12 ha
  have z2 := tl12 hb
  refine st_seq ?_
  cases s with
  | add =>
    simp only [tIfS, tTest, tOp, tVar, tC, rEq]
    push_cast [Sg.s, Sg.ix]
    have z3 : (a ++ b).length ≤ sizeLine := by
      rw [slen, show (a ++ b).cps.toList = a.cps.toList ++ b.cps.toList from TL.tl_append a b, List.length_append, ← slen, ← slen]
      exact Nat.le_trans (m := 24) (by omega) (by decide)
    exact ⟨Nat.le_trans (m := 24) (by omega) (by decide), z3, k H (.refl _ _)⟩
  | sub =>
    simp only [tIfS, tTest, tOp, tVar, tC, rEq]
    refine ⟨_, rfl, rfl, _, rfl, ?_⟩
    refine ite2 (fun e => absurd (of_decide_eq_true e) (by simp [Sg.s, Sg.ix, wd_eq])) fun _ => ?_
    refine st_seq ⟨_, rfl, rfl, _, rfl, ite2 (fun _ => ?_) fun e => absurd (show decide (V.str _ = V.str _) = true from decide_eq_true rfl) e⟩
    exact lc_sub rfl rfl (by simp) ha k
  | less =>
    simp only [tIfS, tTest, tOp, tVar, tC, rEq]
    refine ⟨_, rfl, rfl, _, rfl, ?_⟩
    refine ite2 (fun e => absurd (of_decide_eq_true e) (by simp [Sg.s, Sg.ix, wd_eq])) fun _ => ?_
    refine st_seq ⟨_, rfl, rfl, _, rfl, ite2 (fun e => absurd (of_decide_eq_true e) (by simp [Sg.s, Sg.ix, wd_eq])) fun _ => ?_⟩
    have k0 := k H (.refl _ _)
    push_cast
    simpa [ov, wk, Vl.v, b2n] using k0
  | same => exact absurd rfl hs
theorem rd_L_of_texts {K : PySem.W.Frag} {vs : List V} {H : Hp} {Q : VK} {E : XK} (h : sp_L_of_texts vs H Q E) : t_L_of_texts K { nx := fun _ H' => Q .non H', rt := Q } (start ["_", "_", "_", "_"] vs) H := by
  obtain ⟨s, a, b, rfl, hs, ha, hb, k⟩ := h
  show t_L_of_texts K _ [some (.str s.s), some (.str a), some (.str b), none] H
  unfold t_L_of_texts
  have z1 := tl12 ha
  have z2 := tl12 hb
  refine st_seq ?_
  cases s with
  | add =>
    simp only [tIfS, tTest, tOp, tVar, tC, rEq]
    push_cast [Sg.s, Sg.ix]
    have z3 : (a ++ b).length ≤ sizeLine := by
      rw [slen, show (a ++ b).cps.toList = a.cps.toList ++ b.cps.toList from TL.tl_append a b, List.length_append, ← slen, ← slen]
      exact Nat.le_trans (m := 24) (by omega) (by decide)
    exact ⟨Nat.le_trans (m := 24) (by omega) (by decide), z3, k H (.refl _ _)⟩
  | sub =>
    simp only [tIfS, tTest, tOp, tVar, tC, rEq]
    refine ⟨_, rfl, rfl, _, rfl, ?_⟩
    refine ite2 (fun e => absurd (of_decide_eq_true e) (by simp [Sg.s, Sg.ix, wd_eq])) fun _ => ?_
    refine st_seq ⟨_, rfl, rfl, _, rfl, ite2 (fun e => absurd (of_decide_eq_true e) (by simp [Sg.s, Sg.ix, wd_eq])) fun _ => ?_⟩
    exact lc_sub rfl rfl (by simp) ha k
  | less =>
    simp only [tIfS, tTest, tOp, tVar, tC, rEq]
    refine ⟨_, rfl, rfl, _, rfl, ?_⟩
    refine ite2 (fun e => absurd (of_decide_eq_true e) (by simp [Sg.s, Sg.ix, wd_eq])) fun _ => ?_
    refine st_seq ⟨_, rfl, rfl, _, rfl, ite2 (fun _ => ?_) fun e => absurd (show decide (V.str _ = V.str _) = true from decide_eq_true rfl) e⟩
    have k0 := k H (.refl _ _)
    push_cast
    simpa [ov, wk, Vl.v, b2n] using k0
  | same => exact absurd rfl hs
/-! ### the script, stirred -/
theorem Fr.sqL {K : PySem.W.Frag} {H H1 : Hp} {a : Addr} {xs : List V} (f : Fr [] H H1) (h : SqL K H a xs) : SqL K H1 a xs := by
  rcases h with (h | ⟨o, h⟩) | h
  · exact .inl (.inl (f.keep _ _ h (by simp)))
  · exact .inl (.inr ⟨o, f.keep _ _ h (by simp)⟩)
  · exact .inr h
theorem sum_nonneg : ∀ {l : List Int}, (∀ x ∈ l, 0 ≤ x) → 0 ≤ l.sum
  | [], _ => Int.le_refl 0
  | a :: r, h => by
    rw [List.sum_cons]
    have h1 := h a (List.mem_cons_self ..)
    have h2 := sum_nonneg (l := r) fun x hx => h x (List.mem_cons_of_mem _ hx)
    omega
theorem rd_L_script {K : PySem.W.Frag} {vs : List V} {H : Hp} {Q : VK} {E : XK} (h : sp_L_script K vs H Q E) : t_L_script K { nx := fun _ H' => Q .non H', rt := Q } (start ["_", "_", "_", "_"] vs) H := by
  obtain ⟨a, ns, rfl, hS, hl, k⟩ := h
  show t_L_script K _ [some (.ref a), none, none, none] H
  unfold t_L_script
  refine st_seq ?_
  push_cast
  refine ⟨_, rfl, a, _, rfl, hS, fun L hL => ?_⟩
  refine lc_it (walk_enum (xs := ns.map V.int)) (fun i Hc => ∃ ms : List Int, ms.length = i ∧ Hc L = some (.lst (ms.map V.int)) ∧ Fr [] H Hc) ?_ ?_ ?_ ?_
  · exact ⟨[], rfl, upd_same, (Al.of hL).fr⟩
  · rintro i Hc _ ⟨ms, h1, h2, h3⟩
    exact h3.sqL hS
  · rintro i x Hc H' hi ⟨ms, h1, h2, h3⟩ ⟨T, x1, x2, rfl, hT, rfl, e1, e2⟩
    cases e1
    replace e2 : (ns.map V.int)[i]? = some x2 := e2
    rw [List.getElem?_map] at e2
    cases en : ns[i]? with
    | none => rw [en] at e2; cases e2
    | some n =>
      rw [en] at e2
      cases e2
      have A := Al.of (o := .tup [.int (i : Int), .int n]) hT
      rw [List.length_map] at hi
      refine ⟨T, _, rfl, SqT.of A.at_, rfl, ?_⟩
      push_cast [wipe, tYes]
      have c1 : (0 : Int) ≤ n % 69621 := Int.emod_nonneg _ (by decide)
      have c2 : n % 69621 < 69621 := Int.emod_lt_of_pos _ (by decide)
      refine ⟨by decide, .inl ⟨by omega, by omega⟩, _, A.k h2, ?_, ms ++ [((i : Int) + 1) * (n % 69621)], ?_, ?_, ?_⟩
      · rw [List.length_map, h1]; exact Nat.lt_of_lt_of_le (m := 64) (by omega) (by decide)
      · simp [h1]
      · simp
      · exact (h3.al A).muN (Mu.of (A.k h2) fun _ z => by cases z) hL
  · rintro Hc ⟨ms, h1, h2, h3⟩
    refine ⟨L, ms, rfl, SqL.of h2, _, rfl, by decide, ?_⟩
    refine ⟨a, _, rfl, .inl (h3.sqL hS), fun l2 H2 A => ?_⟩
    refine ⟨a, _, rfl, .inl ((h3.al A).sqL hS), _, rfl, ?_⟩
    have g0 : 0 ≤ ms.sum % 2147483647 := Int.emod_nonneg _ (by decide)
    have g1 : ms.sum % 2147483647 < 2147483647 := Int.emod_lt_of_pos _ (by decide)
    refine ⟨.inl ⟨by omega, by omega⟩, (by simp only [List.length_cons, List.length_nil]; decide), fun b H3 A3 => ?_⟩
    refine k b l2 H3 ⟨fun e => ?_, ns, _, A3.at_, A3.k A.at_, ?_, ?_⟩ ((h3.al A).al A3)
    · rw [e] at A3; have := A3.new; rw [A.at_] at this; cases this
    · split <;> omega
    · split <;> omega
theorem sg4 {z : Int} (h0 : 0 ≤ z) (h1 : z < 4) : ∃ s : Sg, atI [V.str (wd 3), V.str (wd 4), V.str (wd 5), V.str (wd 6)] z = some (.str s.s) := by
  have hz : z = 0 ∨ z = 1 ∨ z = 2 ∨ z = 3 := by omega
  rcases hz with hz | hz | hz | hz <;> subst hz
  · exact ⟨.add, atI0 _ _⟩
  · exact ⟨.sub, atI1 _ _ _⟩
  · exact ⟨.less, atI2 _ _ _ _⟩
  · exact ⟨.same, atI3 _ _ _ _ _⟩
/-! ### isinstance by shapes -/
def tyIs (H : Hp) (x : V) (n : String) : Prop := match x with
  | .non => n = "NoneType"
  | .bl _ => n = "bool"
  | .int _ => n = "int"
  | .str _ => n = "str"
  | .ref a => (match H a with
    | some (.lst _) => n = "list"
    | some (.tup _) => n = "tuple"
    | some (.dK _) => n = "dict"
    | _ => False)
  | _ => False
theorem tyIs.uni {H : Hp} {x : V} {n m : String} (h : tyIs H x n) (h' : tyIs H x m) : n = m := by
  unfold tyIs at h h'
  cases x with
  | ref a =>
    simp only at h h'
    split at h <;> first | exact h.elim | (rename_i e; simp only [e] at h'; rw [h, h'])
  | non => rw [h, h']
  | bl _ => rw [h, h']
  | int _ => rw [h, h']
  | str _ => rw [h, h']
  | _ => exact h.elim
theorem is_eq {H : Hp} {x : V} {n T : String} {b : Bool} {Q : VK} (hn : tyIs H x n) (hk : kitB n T = some b) : rIs T [x, .ty T] H Q = Q (.bl b) H := by
  refine propext ⟨?_, fun q => ⟨_, _, rfl, ⟨n, hn, hk⟩, q⟩⟩
  rintro ⟨y, b', e, ⟨m, hm, hk'⟩, q⟩
  have e' := (List.cons.inj e).1
  subst e'
  have hm' : tyIs H x m := hm
  have e2 := hn.uni hm'
  subst e2
  rw [hk] at hk'
  cases hk'
  exact q
theorem tyIs.lst {H : Hp} {a : Addr} {xs : List V} (h : H a = some (.lst xs)) : tyIs H (.ref a) "list" := by unfold tyIs; simp only [h]
theorem tyIs.tup {H : Hp} {a : Addr} {xs : List V} (h : H a = some (.tup xs)) : tyIs H (.ref a) "tuple" := by unfold tyIs; simp only [h]
theorem tyIs.dic {H : Hp} {a : Addr} {xs : List (Key × V)} (h : H a = some (.dK xs)) : tyIs H (.ref a) "dict" := by unfold tyIs; simp only [h]
section
variable {H : Hp} {a : Addr} {xs : List V} {i : Int} {z : Str} {b : Bool} {Q : VK}
theorem is_NoneType_bool : rIs "bool" [.non, .ty "bool"] H Q = Q (.bl false) H := is_eq (show tyIs H (.non) "NoneType" from rfl) (by decide +kernel)
theorem is_NoneType_int : rIs "int" [.non, .ty "int"] H Q = Q (.bl false) H := is_eq (show tyIs H (.non) "NoneType" from rfl) (by decide +kernel)
theorem is_NoneType_str : rIs "str" [.non, .ty "str"] H Q = Q (.bl false) H := is_eq (show tyIs H (.non) "NoneType" from rfl) (by decide +kernel)
theorem is_NoneType_list : rIs "list" [.non, .ty "list"] H Q = Q (.bl false) H := is_eq (show tyIs H (.non) "NoneType" from rfl) (by decide +kernel)
theorem is_NoneType_tuple : rIs "tuple" [.non, .ty "tuple"] H Q = Q (.bl false) H := is_eq (show tyIs H (.non) "NoneType" from rfl) (by decide +kernel)
theorem is_bool_bool : rIs "bool" [.bl b, .ty "bool"] H Q = Q (.bl true) H := is_eq (show tyIs H (.bl b) "bool" from rfl) (by decide +kernel)
theorem is_bool_int : rIs "int" [.bl b, .ty "int"] H Q = Q (.bl true) H := is_eq (show tyIs H (.bl b) "bool" from rfl) (by decide +kernel)
theorem is_bool_str : rIs "str" [.bl b, .ty "str"] H Q = Q (.bl false) H := is_eq (show tyIs H (.bl b) "bool" from rfl) (by decide +kernel)
theorem is_bool_list : rIs "list" [.bl b, .ty "list"] H Q = Q (.bl false) H := is_eq (show tyIs H (.bl b) "bool" from rfl) (by decide +kernel)
theorem is_bool_tuple : rIs "tuple" [.bl b, .ty "tuple"] H Q = Q (.bl false) H := is_eq (show tyIs H (.bl b) "bool" from rfl) (by decide +kernel)
theorem is_int_bool : rIs "bool" [.int i, .ty "bool"] H Q = Q (.bl false) H := is_eq (show tyIs H (.int i) "int" from rfl) (by decide +kernel)
theorem is_int_int : rIs "int" [.int i, .ty "int"] H Q = Q (.bl true) H := is_eq (show tyIs H (.int i) "int" from rfl) (by decide +kernel)
theorem is_int_str : rIs "str" [.int i, .ty "str"] H Q = Q (.bl false) H := is_eq (show tyIs H (.int i) "int" from rfl) (by decide +kernel)
theorem is_int_list : rIs "list" [.int i, .ty "list"] H Q = Q (.bl false) H := is_eq (show tyIs H (.int i) "int" from rfl) (by decide +kernel)
theorem is_int_tuple : rIs "tuple" [.int i, .ty "tuple"] H Q = Q (.bl false) H := is_eq (show tyIs H (.int i) "int" from rfl) (by decide +kernel)
theorem is_str_bool : rIs "bool" [.str z, .ty "bool"] H Q = Q (.bl false) H := is_eq (show tyIs H (.str z) "str" from rfl) (by decide +kernel)
theorem is_str_int : rIs "int" [.str z, .ty "int"] H Q = Q (.bl false) H := is_eq (show tyIs H (.str z) "str" from rfl) (by decide +kernel)
theorem is_str_str : rIs "str" [.str z, .ty "str"] H Q = Q (.bl true) H := is_eq (show tyIs H (.str z) "str" from rfl) (by decide +kernel)
theorem is_str_list : rIs "list" [.str z, .ty "list"] H Q = Q (.bl false) H := is_eq (show tyIs H (.str z) "str" from rfl) (by decide +kernel)
theorem is_str_tuple : rIs "tuple" [.str z, .ty "tuple"] H Q = Q (.bl false) H := is_eq (show tyIs H (.str z) "str" from rfl) (by decide +kernel)
theorem is_list_bool (h : H a = some (.lst xs)) : rIs "bool" [.ref a, .ty "bool"] H Q = Q (.bl false) H := is_eq (tyIs.lst h) (by decide +kernel)
theorem is_list_int (h : H a = some (.lst xs)) : rIs "int" [.ref a, .ty "int"] H Q = Q (.bl false) H := is_eq (tyIs.lst h) (by decide +kernel)
theorem is_list_str (h : H a = some (.lst xs)) : rIs "str" [.ref a, .ty "str"] H Q = Q (.bl false) H := is_eq (tyIs.lst h) (by decide +kernel)
theorem is_list_list (h : H a = some (.lst xs)) : rIs "list" [.ref a, .ty "list"] H Q = Q (.bl true) H := is_eq (tyIs.lst h) (by decide +kernel)
theorem is_list_tuple (h : H a = some (.lst xs)) : rIs "tuple" [.ref a, .ty "tuple"] H Q = Q (.bl false) H := is_eq (tyIs.lst h) (by decide +kernel)
theorem is_tuple_bool (h : H a = some (.tup xs)) : rIs "bool" [.ref a, .ty "bool"] H Q = Q (.bl false) H := is_eq (tyIs.tup h) (by decide +kernel)
theorem is_tuple_int (h : H a = some (.tup xs)) : rIs "int" [.ref a, .ty "int"] H Q = Q (.bl false) H := is_eq (tyIs.tup h) (by decide +kernel)
theorem is_tuple_str (h : H a = some (.tup xs)) : rIs "str" [.ref a, .ty "str"] H Q = Q (.bl false) H := is_eq (tyIs.tup h) (by decide +kernel)
theorem is_tuple_list (h : H a = some (.tup xs)) : rIs "list" [.ref a, .ty "list"] H Q = Q (.bl false) H := is_eq (tyIs.tup h) (by decide +kernel)
theorem is_tuple_tuple (h : H a = some (.tup xs)) : rIs "tuple" [.ref a, .ty "tuple"] H Q = Q (.bl true) H := is_eq (tyIs.tup h) (by decide +kernel)
end
theorem is_dict_dict {H : Hp} {a : Addr} {ks : List (Key × V)} {Q : VK} (h : H a = some (.dK ks)) : rIs "dict" [.ref a, .ty "dict"] H Q = Q (.bl true) H := is_eq (tyIs.dic h) (by decide +kernel)
theorem RpAll.item {H : Hp} {vs : List V} {ds : List PyData} {i : Nat} (r : RpAll H vs ds) (h : i < ds.length) : ∃ v, vs[i]? = some v ∧ Rp H v ds[i] := r.get (List.getElem?_eq_getElem h)
theorem depth_lt_list {ds : List PyData} {n : Nat} (h : PyData.depthAll ds < n) : ∀ d ∈ ds, d.depth < n := by
  induction ds with
  | nil => intro d hd; cases hd
  | cons a r ih =>
    simp only [PyData.depthAll] at h
    intro d hd
    rcases List.mem_cons.mp hd with rfl | hd
    · omega
    · exact ih (by omega) d hd
/-- the items, one by one -/
theorem alike_loop {n : Nat} {x y : Addr} {xs ys : List V} {ds : List PyData} {H : Hp} {Q : VK} (hx : H x = some (.lst xs) ∨ H x = some (.tup xs)) (hy : H y = some (.lst ys) ∨ H y = some (.tup ys)) (rx : RpAll H xs ds) (ry : RpAll H ys ds)
    (hd : ∀ d ∈ ds, d.depth < n) (k : Q (.bl true) H) {K : PySem.W.Frag} (hz : ys.length < 4611686018427387904) :
    tSeq (tFor (iRng1 (tCons (tCB rLenQ (tCons (tVar 1) tNil)) tNil)) (gName 2)
      (tIfS (tNot (tB (tCall (sp_L_alike n) [] E0 (tCons (tOp rXQ (tVar 0) (tVar 2)) (tCons (tOp rXQ (tVar 1) (tVar 2)) tNil))))) (tRet (tC (.bl false))) tNext))
      (tRet (tC (.bl true))) { nx := fun _ H' => Q .non H', rt := Q } [some (.ref x), some (.ref y), none] H := by
  refine st_seq (forR (n := (ys.length : Int)) (fun R h => ⟨_, rfl, y, ys, rfl, hy, h⟩) (by omega) (by omega) (fun _ σ' H' => H' = H ∧ σ'[0]? = some (some (.ref x)) ∧ σ'[1]? = some (some (.ref y)) ∧ 2 < σ'.length) ⟨rfl, rfl, rfl, by simp⟩ ?_ ?_)
  · rintro i σ' H' hi ⟨rfl, g0, g1, g2⟩
    have e1 := rx.length
    have e2 := ry.length
    have hi' : i < ds.length := by omega
    obtain ⟨v, hv, rv⟩ := rx.item hi'
    obtain ⟨u, hu, ru⟩ := ry.item hi'
    have s0 : (σ'.set 2 (some (V.int (i : Int))))[0]? = some (some (.ref x)) := by simp [g0]
    have s1 : (σ'.set 2 (some (V.int (i : Int))))[1]? = some (some (.ref y)) := by simp [g1]
    have s2 : (σ'.set 2 (some (V.int (i : Int))))[2]? = some (some (.int (i : Int))) := by simp [g2]
    refine ⟨_, s0, _, s2, x, xs, _, v, rfl, rfl, hx, atI_nat hv, ?_⟩
    refine ⟨_, s1, _, s2, y, ys, _, u, rfl, rfl, hy, atI_nat hu, ?_⟩
    refine ⟨v, u, ds[i], rfl, rv, ru, hd _ (List.getElem_mem hi'), true, rfl, ?_⟩
    exact iteF ⟨rfl, s0, s1, by simpa using g2⟩
  · rintro σ' H' ⟨rfl, _⟩
    exact k
theorem ite_of {p : Prop} {c : Prop} [Decidable c] {q : Prop} (h : c) (k : p) : if c then p else q := by rw [if_pos h]; exact k
theorem rd_L_alike {K : PySem.W.Frag} {n : Nat} {vs : List V} {H : Hp} {Q : VK} {E : XK} (h : sp_L_alike (n + 1) vs H Q E) (hw : HSz H) : t_L_alike K n { nx := fun _ H' => Q .non H', rt := Q } (start ["_", "_", "_"] vs) H := by
  obtain ⟨x, y, d, rfl, hx, hy, hd, k⟩ := h
  show t_L_alike K n _ [some x, some y, none] H
  unfold t_L_alike
  refine st_seq ?_
  cases d with
  | none =>
    cases hx; cases hy
    push_cast
    exact k
  | bool b =>
    cases hx; cases hy
    push_cast
    refine st_seq ?_
    push_cast [is_bool_bool]
    exact k
  | int i =>
    cases hx; cases hy
    push_cast
    refine st_seq ?_
    push_cast [is_int_bool]
    refine st_seq ?_
    push_cast [is_int_bool, is_int_int]
    exact k
  | str z =>
    cases hx; cases hy
    push_cast
    refine st_seq ?_
    push_cast [is_str_bool]
    refine st_seq ?_
    push_cast [is_str_int]
    refine st_seq ?_
    push_cast [is_str_str]
    exact k
  | list ds =>
    cases hx with | lst hx rx => ?_
    cases hy with | lst hy ry => ?_
    push_cast
    refine st_seq ?_
    push_cast [is_list_bool hy]
    refine st_seq ?_
    push_cast [is_list_int hy]
    refine st_seq ?_
    push_cast [is_list_str hy]
    refine st_seq ?_
    push_cast [is_list_tuple hy, is_list_tuple hx, is_list_list hy, is_list_list hx]
    refine st_seq ?_
    have e1 := rx.length
    have e2 := ry.length
    push_cast [hx, hy]
    rw [e1, e2]
    push_cast [eq_self]
    exact alike_loop (.inl hx) (.inl hy) rx ry (depth_lt_list (by simp only [PyData.depth] at hd; omega)) k (K := K) (Nat.lt_of_le_of_lt ((hw _).1 _ hy) (by decide))
  | tuple ds =>
    cases hx with | tup hx rx => ?_
    cases hy with | tup hy ry => ?_
    push_cast
    refine st_seq ?_
    push_cast [is_tuple_bool hy]
    refine st_seq ?_
    push_cast [is_tuple_int hy]
    refine st_seq ?_
    push_cast [is_tuple_str hy]
    refine st_seq ?_
    push_cast [is_tuple_tuple hy, is_tuple_tuple hx, is_tuple_list hy, is_tuple_list hx]
    refine st_seq ?_
    have e1 := rx.length
    have e2 := ry.length
    push_cast [hx, hy]
    rw [e1, e2]
    push_cast [eq_self]
    exact alike_loop (.inr hx) (.inr hy) rx ry (depth_lt_list (by simp only [PyData.depth] at hd; omega)) k (K := K) (Nat.lt_of_le_of_lt ((hw _).2.1 _ hy) (by decide))
  | dict kvs => cases hx

section
variable {p q : Prop} [Decidable p] [Decidable q] {X Y : Prop}
theorem i2 (h1 : p → X) (h2 : ¬ p → Y) : if p then X else Y := by
  split
  · next h => exact h1 h
  · next h => exact h2 h
theorem iteT' (h : p) (k : X) : if p then X else Y := by rw [if_pos h]; exact k
theorem iteF' (h : ¬ p) (k : Y) : if p then X else Y := by rw [if_neg h]; exact k
theorem or2 (h1 : p ∨ q → X) (h2 : ¬ p → ¬ q → Y) : if p then X else if q then X else Y := i2 (fun h => h1 (.inl h)) fun h => i2 (fun h' => h1 (.inr h')) fun h' => h2 h h'
theorem and2 (h1 : p → q → X) (h2 : ¬ (p ∧ q) → Y) : if p then (if q then X else Y) else Y := i2 (fun h => i2 (fun h' => h1 h h') fun h' => h2 fun z => h' z.2) fun h => h2 fun z => h z.1
end
/-! ### promises of the makers of programs, and of codes -/
def rowC (f k m : Nat) : Nat := (if k < 2 then 8 else m) * f
def stC : Nat → Nat
  | 0 => 1
  | k + 1 => 1 + rowC (stC k) k 3 + rowC (stC k) k 2
def sp_L_name : Sp := fun vs H Q _ => ∃ (b l : Addr), vs = [.ref b] ∧ BoxAt H b l ∧ ∀ x H', Nm8 x → BoxAt H' b l → Fr [b, l] H H' → Q (.str x) H'
theorem len_L_name (vs : List V) (H : Hp) (Q : VK) (E : XK) (h : sp_L_name vs H Q E) : vs.length = 1 := by
  obtain ⟨_, _, rfl, _⟩ := h
  rfl
def sp_L_part (n : Nat) : Sp := fun vs H Q _ => ∃ (b l : Addr) (k : Nat), vs = [.ref b, .int k] ∧ BoxAt H b l ∧ k < n ∧ ∀ (e : Ex) v H', e.ok → e.dep ≤ k + 1 → Tp H' e.d v → BoxAt H' b l → Fr [b, l] H H' → Q v H'
theorem len_L_part {n : Nat} (vs : List V) (H : Hp) (Q : VK) (E : XK) (h : sp_L_part n vs H Q E) : vs.length = 2 := by
  obtain ⟨_, _, _, rfl, _⟩ := h
  rfl
theorem no_L_part (vs : List V) (H : Hp) (Q : VK) (E : XK) : ¬ sp_L_part 0 vs H Q E := fun ⟨_, _, _, _, _, h, _⟩ => absurd h (Nat.not_lt_zero _)
def sp_L_row (n : Nat) : Sp := fun vs H Q _ => ∃ (b l : Addr) (k m : Nat), vs = [.ref b, .int k, .int m] ∧ BoxAt H b l ∧ 2 * k + 1 < n ∧ m ≤ 8 ∧
  ∀ (p : List Sm) v H', okL 5 p → dpL p ≤ 2 * k + 2 → cntL p ≤ rowC (stC k) k m → Tp H' (rowD p) v → BoxAt H' b l → Fr [b, l] H H' → Q v H'
theorem len_L_row {n : Nat} (vs : List V) (H : Hp) (Q : VK) (E : XK) (h : sp_L_row n vs H Q E) : vs.length = 3 := by
  obtain ⟨_, _, _, _, rfl, _⟩ := h
  rfl
theorem no_L_row (vs : List V) (H : Hp) (Q : VK) (E : XK) : ¬ sp_L_row 0 vs H Q E := fun ⟨_, _, _, _, _, _, h, _⟩ => absurd h (Nat.not_lt_zero _)
def sp_L_statement (n : Nat) : Sp := fun vs H Q _ => ∃ (b l : Addr) (k : Nat), vs = [.ref b, .int k] ∧ BoxAt H b l ∧ 2 * k < n ∧
  ∀ (s : Sm) v H', s.ok 5 → s.dp ≤ 2 * k + 1 → s.cnt ≤ stC k → Tp H' s.d v → BoxAt H' b l → Fr [b, l] H H' → Q v H'
theorem len_L_statement {n : Nat} (vs : List V) (H : Hp) (Q : VK) (E : XK) (h : sp_L_statement n vs H Q E) : vs.length = 2 := by
  obtain ⟨_, _, _, rfl, _⟩ := h
  rfl
theorem no_L_statement (vs : List V) (H : Hp) (Q : VK) (E : XK) : ¬ sp_L_statement 0 vs H Q E := fun ⟨_, _, _, _, _, h, _⟩ => absurd h (Nat.not_lt_zero _)
/-- a row, within a while that counts down -/
def countP (t : Int) (p : List Sm) : List Sm := [.set ("d" : Str) (.num t), .whl (.name ("d" : Str)) (p ++ [.set ("d" : Str) (.op .sub (.name ("d" : Str)) (.num 1))])]
def sp_L_counted : Sp := fun vs H Q _ => ∃ (v : V) (t : Int) (p : List Sm), vs = [v, .int t] ∧ Tp H (rowD p) v ∧ cntL p ≤ 20000 ∧ ∀ v' H', Tp H' (rowD (countP t p)) v' → Fr [] H H' → Q v' H'
theorem len_L_counted (vs : List V) (H : Hp) (Q : VK) (E : XK) (h : sp_L_counted vs H Q E) : vs.length = 2 := by
  obtain ⟨_, _, _, rfl, _⟩ := h
  rfl
def sp_L_program : Sp := fun vs H Q _ => ∃ (b l : Addr), vs = [.ref b, .int 3] ∧ BoxAt H b l ∧ ∀ (p : List Sm) v H', okL 5 p → dpL p ≤ 10 → cntL p ≤ 10940 → Tp H' (rowD p) v → BoxAt H' b l → Fr [b, l] H H' → Q v H'
theorem len_L_program (vs : List V) (H : Hp) (Q : VK) (E : XK) (h : sp_L_program vs H Q E) : vs.length = 2 := by
  obtain ⟨_, _, rfl, _⟩ := h
  rfl
def sp_L_part_code (n : Nat) : Sp := fun vs H Q _ => ∃ (v : V) (e : Ex), vs = [v] ∧ Tp H e.d v ∧ e.dep ≤ n ∧ e.dep ≤ 10 ∧ ∀ a xs H', H' a = some (.lst xs) → TpL H' (e.code.map Rw.d) xs → Fr [] H H' → Q (.ref a) H'
theorem len_L_part_code {n : Nat} (vs : List V) (H : Hp) (Q : VK) (E : XK) (h : sp_L_part_code n vs H Q E) : vs.length = 1 := by
  obtain ⟨_, _, rfl, _⟩ := h
  rfl
theorem Ex.dep_pos (e : Ex) : 0 < e.dep := by cases e <;> simp only [Ex.dep] <;> omega
theorem no_L_part_code (vs : List V) (H : Hp) (Q : VK) (E : XK) : ¬ sp_L_part_code 0 vs H Q E := fun ⟨_, e, _, _, h, _⟩ => absurd e.dep_pos (by omega)
theorem Sm.dp_pos (s : Sm) : 0 < s.dp := by cases s <;> simp only [Sm.dp] <;> omega
theorem dpL_pos (l : List Sm) : 0 < dpL l := by cases l <;> simp only [dpL] <;> omega
theorem Un.dp_pos (o : Un) : 0 < o.dp := by
  cases o with
  | row l => exact dpL_pos l
  | st s => exact s.dp_pos
def sp_L_code (n : Nat) : Sp := fun vs H Q _ => ∃ (v : V) (b : Nat) (o : Un), vs = [v, .int b] ∧ Tp H o.d v ∧ o.dp ≤ n ∧ o.ok 5 ∧ o.cnt ≤ 20000 ∧ ∀ a xs H', H' a = some (.lst xs) → TpL H' ((o.code b).map Rw.d) xs → Fr [] H H' → Q (.ref a) H'
theorem len_L_code {n : Nat} (vs : List V) (H : Hp) (Q : VK) (E : XK) (h : sp_L_code n vs H Q E) : vs.length = 2 := by
  obtain ⟨_, _, _, rfl, _⟩ := h
  rfl
theorem no_L_code (vs : List V) (H : Hp) (Q : VK) (E : XK) : ¬ sp_L_code 0 vs H Q E := fun ⟨_, _, o, _, _, h, _⟩ => absurd o.dp_pos (by omega)
/-- all rows of a program -/
def progC (p : List Sm) : List Rw := codeL p 0 ++ [.fin]
def rowsD (rs : List Rw) : PyData := .tuple (rs.map Rw.d)
def PrOk (p : List Sm) : Prop := okL 5 p ∧ dpL p ≤ 12 ∧ cntL p ≤ 20000
def sp_L_coded : Sp := fun vs H Q _ => ∃ (v : V) (p : List Sm), vs = [v] ∧ Tp H (rowD p) v ∧ PrOk p ∧ ∀ v' H', Tp H' (rowsD (progC p)) v' → Fr [] H H' → Q v' H'
theorem len_L_coded (vs : List V) (H : Hp) (Q : VK) (E : XK) (h : sp_L_coded vs H Q E) : vs.length = 1 := by
  obtain ⟨_, _, rfl, _⟩ := h
  rfl
def sp_coded : Sp := sp_L_coded
theorem len_coded (vs : List V) (H : Hp) (Q : VK) (E : XK) (h : sp_coded vs H Q E) : vs.length = 1 := len_L_coded vs H Q E h
/-! Coder -/
def CoderAt (c : CA) (H : Hp) (o m : Addr) (xs : List V) : Prop := (∃ dx, H o = some (.ins c.coder dx [("made", .ref m)])) ∧ H m = some (.lst xs)
def sp_Coder___init__ (c : CA) : Sp := fun vs H Q _ => ∃ (o dx : Addr), vs = [.ref o] ∧ H o = some (.ins c.coder dx []) ∧ ∀ m H', H m = none → CoderAt c H' o m [] → Fr [o] H H' → Q .non H'
theorem len_Coder___init__ {c : CA} (vs : List V) (H : Hp) (Q : VK) (E : XK) (h : sp_Coder___init__ c vs H Q E) : vs.length = 1 := by
  obtain ⟨_, _, rfl, _⟩ := h
  rfl
def sp_Coder_put (c : CA) : Sp := fun vs H Q _ => ∃ (o m : Addr) (v : V) (xs : List V), vs = [.ref o, v] ∧ CoderAt c H o m xs ∧ xs.length < 4194304 ∧ ∀ H', CoderAt c H' o m (xs ++ [v]) → Fr [m] H H' → Q (.int xs.length) H'
theorem len_Coder_put {c : CA} (vs : List V) (H : Hp) (Q : VK) (E : XK) (h : sp_Coder_put c vs H Q E) : vs.length = 2 := by
  obtain ⟨_, _, _, _, rfl, _⟩ := h
  rfl
def sp_Coder_part (c : CA) (n : Nat) : Sp := fun vs H Q _ => ∃ (o m : Addr) (v : V) (xs : List V) (rs : List Rw) (e : Ex), vs = [.ref o, v] ∧ CoderAt c H o m xs ∧ TpL H (rs.map Rw.d) xs ∧ Tp H e.d v ∧ e.dep ≤ n ∧ rs.length + e.code.length < 4194304 ∧
  ∀ xs' H', CoderAt c H' o m xs' → TpL H' ((rs ++ e.code).map Rw.d) xs' → Fr [m] H H' → Q .non H'
theorem len_Coder_part {c : CA} {n : Nat} (vs : List V) (H : Hp) (Q : VK) (E : XK) (h : sp_Coder_part c n vs H Q E) : vs.length = 2 := by
  obtain ⟨_, _, _, _, _, _, rfl, _⟩ := h
  rfl
theorem no_Coder_part {c : CA} (vs : List V) (H : Hp) (Q : VK) (E : XK) : ¬ sp_Coder_part c 0 vs H Q E := fun ⟨_, _, _, _, _, e, _, _, _, _, h, _⟩ => absurd e.dep_pos (by omega)
def spLay (c : CA) (n j : Nat) (good : Un → Prop) : Sp := fun vs H Q _ => ∃ (o m : Addr) (v : V) (xs : List V) (rs : List Rw) (u : Un), vs = [.ref o, v] ∧ CoderAt c H o m xs ∧ TpL H (rs.map Rw.d) xs ∧ Tp H u.d v ∧ good u ∧ 2 * u.dp ≤ n + j ∧ u.ok 5 ∧ rs.length + 35 * u.cnt < 4194304 ∧
  ∀ xs' H', CoderAt c H' o m xs' → TpL H' ((rs ++ u.code rs.length).map Rw.d) xs' → Fr [m] H H' → Q .non H'
theorem len_spLay {c : CA} {n j : Nat} {g : Un → Prop} (vs : List V) (H : Hp) (Q : VK) (E : XK) (h : spLay c n j g vs H Q E) : vs.length = 2 := by
  obtain ⟨_, _, _, _, _, _, rfl, _⟩ := h
  rfl
theorem no_spLay {c : CA} {j : Nat} {g : Un → Prop} (hj : j ≤ 1) (vs : List V) (H : Hp) (Q : VK) (E : XK) : ¬ spLay c 0 j g vs H Q E := fun ⟨_, _, _, _, _, u, _, _, _, _, _, h, _⟩ => absurd u.dp_pos (by omega)
def isIte : Un → Prop
  | .st (.ite _ _ _) => True
  | _ => False
def isWhl : Un → Prop
  | .st (.whl _ _) => True
  | _ => False
def sp_Coder_lay (c : CA) (n : Nat) : Sp := spLay c n 0 fun _ => True
def sp_Coder_choice (c : CA) (n : Nat) : Sp := spLay c n 1 isIte
def sp_Coder_loop (c : CA) (n : Nat) : Sp := spLay c n 1 isWhl
theorem len_Coder_lay {c : CA} {n : Nat} (vs : List V) (H : Hp) (Q : VK) (E : XK) (h : sp_Coder_lay c n vs H Q E) : vs.length = 2 := len_spLay vs H Q E h
theorem len_Coder_choice {c : CA} {n : Nat} (vs : List V) (H : Hp) (Q : VK) (E : XK) (h : sp_Coder_choice c n vs H Q E) : vs.length = 2 := len_spLay vs H Q E h
theorem len_Coder_loop {c : CA} {n : Nat} (vs : List V) (H : Hp) (Q : VK) (E : XK) (h : sp_Coder_loop c n vs H Q E) : vs.length = 2 := len_spLay vs H Q E h
theorem no_Coder_lay {c : CA} (vs : List V) (H : Hp) (Q : VK) (E : XK) : ¬ sp_Coder_lay c 0 vs H Q E := no_spLay (by decide) vs H Q E
theorem no_Coder_choice {c : CA} (vs : List V) (H : Hp) (Q : VK) (E : XK) : ¬ sp_Coder_choice c 0 vs H Q E := no_spLay (by decide) vs H Q E
theorem no_Coder_loop {c : CA} (vs : List V) (H : Hp) (Q : VK) (E : XK) : ¬ sp_Coder_loop c 0 vs H Q E := no_spLay (by decide) vs H Q E
theorem CoderAt.al {c : CA} {H H' : Hp} {o m p : Addr} {xs : List V} {u : HO} (h : CoderAt c H o m xs) (a : Al H p u H') : CoderAt c H' o m xs := ⟨⟨_, a.k h.1.choose_spec⟩, a.k h.2⟩
def sp_law (K : PySem.W.Frag) : Sp := fun vs H Q _ => ∃ (a : Addr) (ns : List Int), vs = [.ref a] ∧ SqL K H a (ns.map V.int) ∧ ns.length ≤ 63 ∧ ∀ H', Q (.bl true) H'
theorem len_law {K : PySem.W.Frag} (vs : List V) (H : Hp) (Q : VK) (E : XK) (h : sp_law K vs H Q E) : vs.length = 1 := by
  obtain ⟨_, _, rfl, _⟩ := h
  rfl

/-! the plain machine: states, steps, heights -/
/-! ### names with values -/
abbrev Nms := List (Str × Vl)
def nget (m : Nms) (x : Str) : Option Vl := (m.find? fun p => decide (p.1 = x)).map (·.2)
def nput (m : Nms) (x : Str) (v : Vl) : Nms := if (m.any fun p => decide (p.1 = x)) = true then m.map (fun p => if p.1 = x then (p.1, v) else p) else m ++ [(x, v)]
def kvs (m : Nms) : List (Key × V) := m.map fun p => (.inr p.1, p.2.v)
def NmOk (m : Nms) : Prop := (m.map (·.1)).Nodup ∧ ∀ p ∈ m, Nm8 p.1 ∧ p.2.ok
theorem valV_kvs (x : Str) : ∀ m : Nms, valV (kvs m) (.inr x) = (nget m x).map Vl.v
  | [] => rfl
  | p :: r => by
    have ih := valV_kvs x r
    by_cases e : p.1 = x
    · rw [show kvs (p :: r) = (Sum.inr p.1, p.2.v) :: kvs r from rfl, valV_pos (by rw [e])]
      simp [nget, List.find?_cons, e]
    · rw [show kvs (p :: r) = (Sum.inr p.1, p.2.v) :: kvs r from rfl, valV_neg (by intro z; exact e (Sum.inr.inj z)), ih]
      simp [nget, List.find?_cons, e]
theorem kvs_length (m : Nms) : (kvs m).length = m.length := by simp [kvs]
theorem putK_kvs (m : Nms) (x : Str) (v : Vl) : putK (kvs m) (.inr x) v.v = kvs (nput m x v) := by
  have e : ((kvs m).any fun kv => decide (kv.1 = Sum.inr x)) = m.any fun p => decide (p.1 = x) := by
    simp only [kvs, List.any_map]
    congr 1
    funext p
    simp
  unfold putK nput
  rw [e]
  split
  · simp only [kvs, List.map_map]
    congr 1
    funext p
    by_cases h : p.1 = x
    · simp [h]
    · simp [h]
  · simp [kvs]
theorem nget_put (m : Nms) (x y : Str) (v : Vl) : nget (nput m x v) y = if y = x then some v else nget m y := by
  have h := valV_put (kvs m) (.inr x) (.inr y) v.v
  rw [putK_kvs, valV_kvs, valV_kvs] at h
  have inj : ∀ a b : Option Vl, a.map Vl.v = b.map Vl.v → a = b := by
    intro a b e
    cases a <;> cases b <;> simp_all [Vl.v_inj]
  apply inj
  rw [h]
  by_cases e : y = x
  · subst e; simp
  · rw [if_neg e, if_neg fun z => e (Sum.inr.inj z)]
theorem nput_keys (m : Nms) (x : Str) (v : Vl) : (nput m x v).map (·.1) = if x ∈ m.map (·.1) then m.map (·.1) else m.map (·.1) ++ [x] := by
  have e : (m.any fun p => decide (p.1 = x)) = decide (x ∈ m.map (·.1)) := by
    rw [Bool.eq_iff_iff]
    simp only [List.any_eq_true, decide_eq_true_eq, List.mem_map]
  unfold nput
  rw [e]
  by_cases h : x ∈ m.map (·.1)
  · rw [if_pos (decide_eq_true h), if_pos h, List.map_map]
    congr 1
    funext p
    by_cases h : p.1 = x <;> simp [h]
  · rw [if_neg (by simpa using h), if_neg h]
    simp
theorem NmOk.put {m : Nms} {x : Str} {v : Vl} (h : NmOk m) (hx : Nm8 x) (hv : v.ok) : NmOk (nput m x v) := by
  refine ⟨?_, ?_⟩
  · rw [nput_keys]
    split
    · exact h.1
    · next n => rw [List.nodup_append]; exact ⟨h.1, by simp, fun a ha b hb e => n (by rw [List.mem_singleton.mp hb] at e; rw [← e]; exact ha)⟩
  · intro p hp
    unfold nput at hp
    split at hp
    · obtain ⟨q, hq, rfl⟩ := List.mem_map.mp hp
      split
      · exact ⟨(h.2 q hq).1, hv⟩
      · exact h.2 q hq
    · rcases List.mem_append.mp hp with hp | hp
      · exact h.2 p hp
      · rw [List.mem_singleton.mp hp]; exact ⟨hx, hv⟩
theorem nodup_lt : ∀ (n : Nat) (l : List Nat), l.Nodup → (∀ x ∈ l, x < n) → l.length ≤ n
  | 0, l, _, h => by
    cases l with
    | nil => exact Nat.le_refl _
    | cons a r => exact absurd (h a (List.mem_cons_self ..)) (Nat.not_lt_zero _)
  | n + 1, l, hn, h => by
    by_cases hm : n ∈ l
    · have h1 := List.length_erase_of_mem hm
      have h2 := nodup_lt n (l.erase n) (hn.erase n) (fun x hx => by
        have := (hn.mem_erase_iff).mp hx
        have := h x this.2
        omega)
      omega
    · have := nodup_lt n l hn (fun x hx => by
        have h1 := h x hx
        have : x ≠ n := fun e => hm (by rw [← e]; exact hx)
        omega)
      omega
theorem NmOk.len {m : Nms} (h : NmOk m) : m.length ≤ 8 := by
  have hx : ∀ p ∈ m, ∃ i, i < 8 ∧ p.1 = (⟨#[97 + i]⟩ : Str) := fun p hp => (h.2 p hp).1
  let f : Str → Nat := fun x => (x.cps.toList.getD 0 0) - 97
  have h1 : ((m.map (·.1)).map f).Nodup := by
    have inj : ∀ a ∈ m.map (·.1), ∀ b ∈ m.map (·.1), f a = f b → a = b := by
      intro a ha b hb e
      obtain ⟨p, hp, rfl⟩ := List.mem_map.mp ha
      obtain ⟨q, hq, rfl⟩ := List.mem_map.mp hb
      obtain ⟨i, hi, ei⟩ := hx p hp
      obtain ⟨j, hj, ej⟩ := hx q hq
      have fi : f p.1 = i := by rw [ei]; simp [f]
      have fj : f q.1 = j := by rw [ej]; simp [f]
      rw [ei, ej, ← fi, ← fj, e]
    have go : ∀ l : List Str, l.Nodup → (∀ a ∈ l, ∀ b ∈ l, f a = f b → a = b) → (l.map f).Nodup := by
      intro l
      induction l with
      | nil => intro _ _; simp
      | cons a r ih =>
        intro hn hi
        rw [List.nodup_cons] at hn
        rw [List.map_cons, List.nodup_cons]
        refine ⟨fun z => ?_, ih hn.2 fun x hx y hy => hi x (List.mem_cons_of_mem _ hx) y (List.mem_cons_of_mem _ hy)⟩
        obtain ⟨y, hy, e⟩ := List.mem_map.mp z
        exact hn.1 (by rw [← hi y (List.mem_cons_of_mem _ hy) a (List.mem_cons_self ..) e]; exact hy)
    exact go _ h.1 inj
  have h2 := nodup_lt 8 _ h1 (by
    intro x hx'
    obtain ⟨y, hy, rfl⟩ := List.mem_map.mp hx'
    obtain ⟨p, hp, rfl⟩ := List.mem_map.mp hy
    obtain ⟨i, hi, ei⟩ := hx p hp
    rw [ei]
    simp [f]
    exact hi)
  simpa using h2
theorem nget_mem {m : Nms} {x : Str} {v : Vl} (h : nget m x = some v) : ∃ p ∈ m, p.1 = x ∧ p.2 = v := by
  unfold nget at h
  cases e : m.find? (fun p => decide (p.1 = x)) with
  | none => rw [e] at h; cases h
  | some p =>
    rw [e] at h
    refine ⟨p, List.mem_of_find?_eq_some e, ?_, Option.some.inj h⟩
    have := List.find?_some e
    exact of_decide_eq_true this
def ngetD (m : Nms) (x : Str) : Vl := (nget m x).getD (.n 0)
theorem NmOk.get {m : Nms} (h : NmOk m) (x : Str) : (ngetD m x).ok := by
  unfold ngetD
  cases e : nget m x with
  | none => exact ⟨by decide, by decide⟩
  | some v => obtain ⟨p, hp, _, rfl⟩ := nget_mem e; exact (h.2 p hp).2
theorem nget_of_mem {m : Nms} (h : (m.map (·.1)).Nodup) {p : Str × Vl} (hp : p ∈ m) : nget m p.1 = some p.2 := by
  induction m with
  | nil => cases hp
  | cons q r ih =>
    rw [List.map_cons, List.nodup_cons] at h
    rcases List.mem_cons.mp hp with rfl | hp
    · simp [nget, List.find?_cons]
    · have ne : q.1 ≠ p.1 := fun e => h.1 (by rw [e]; exact List.mem_map_of_mem hp)
      have := ih h.2 hp
      unfold nget at this ⊢
      rw [List.find?_cons, show decide (q.1 = p.1) = false from decide_eq_false ne]
      exact this
/-! ### what signs make is a value -/
theorem cut12_tl (a b : Str) : ∃ k, (cut12 a b).cps.toList = (a.cps.toList ++ b.cps.toList).take k ∧ k ≤ 12 := by
  unfold cut12 cutS
  refine ⟨min 12 (a ++ b).length, ?_, Nat.min_le_left _ _⟩
  have e0 : HT.sIx (a ++ b).length 0 none = 0 := rfl
  have e1 : HT.sIx (a ++ b).length (a ++ b).length (some 12) = min 12 (a ++ b).length := HT.sIx_nat _ _ 12
  rw [e0, e1]
  simp only [List.drop_zero, Nat.sub_zero]
  rw [show (a ++ b).cps.toList = a.cps.toList ++ b.cps.toList from TL.tl_append a b]
theorem wk_ok {s : Sg} {x y z : Vl} (hx : x.ok) (hy : y.ok) (h : wk s x y = some z) : z.ok := by
  have b1 : ∀ b : Bool, (Vl.n (b2n b)).ok := fun b => by cases b <;> exact ⟨by decide, by decide⟩
  cases s <;> cases x <;> cases y <;> simp only [wk, Option.some.injEq, reduceCtorEq] at h <;> subst h
  all_goals first
    | exact b1 _
    | exact ⟨Int.emod_nonneg _ (by decide), Int.emod_lt_of_pos _ (by decide)⟩
    | skip
  · next a b =>
    obtain ⟨k, e, hk⟩ := cut12_tl a b
    refine ⟨by rw [e, List.length_take]; omega, fun c hc => ?_⟩
    rw [e] at hc
    rcases List.mem_append.mp (List.mem_of_mem_take hc) with hc | hc
    · exact hx.2 c hc
    · exact hy.2 c hc
  · next a b =>
    have e : (subT a b).cps.toList = a.cps.toList.filter fun c => !decide (c ∈ b.cps.toList) := by simp [subT]
    refine ⟨by rw [e]; exact Nat.le_trans (List.length_filter_le _ _) hx.1, fun c hc => ?_⟩
    rw [e] at hc
    exact hx.2 c (List.mem_filter.mp hc).1
/-! ### states and steps -/
inductive Ls where
  | done | dry | mixed (p : Nat)
def Ls.d : Ls → PyData
  | .done => .tuple [.str (wd 26)]
  | .dry => .tuple [.str (wd 27)]
  | .mixed p => .tuple [.str (wd 28), .int (p : Nat)]
def lastD : Option Ls → PyData
  | none => .none
  | some l => l.d
structure MS where
  names : Nms
  st : List Vl
  place : Nat
  left : Int
  said : List Vl
  last : Option Ls
def stepR (r : Rw) (s : MS) : MS :=
  match r with
  | .num n => { s with st := .n n :: s.st, place := s.place + 1 }
  | .text z => { s with st := .t z :: s.st, place := s.place + 1 }
  | .name x => { s with st := ngetD s.names x :: s.st, place := s.place + 1 }
  | .op g => (match s.st with
    | y :: x :: r => (match wk g x y with
      | some z => { s with st := z :: r, place := s.place + 1 }
      | none => { s with last := some (.mixed s.place) })
    | _ => s)
  | .say => (match s.st with
    | y :: r => { s with st := r, said := s.said ++ [y], place := s.place + 1 }
    | _ => s)
  | .set x => (match s.st with
    | y :: r => { s with st := r, names := nput s.names x y, place := s.place + 1 }
    | _ => s)
  | .unless q => (match s.st with
    | y :: r => { s with st := r, place := if y.so then s.place + 1 else q }
    | _ => s)
  | .go z => { s with place := z }
  | .top => if s.left - 1 < 0 then { s with left := s.left - 1, last := some .dry } else { s with left := s.left - 1, place := s.place + 1 }
  | .fin => { s with last := some .done }
def step (code : List Rw) (s : MS) : MS := match code[s.place]? with
  | some r => stepR r s
  | none => s
theorem step_at {code : List Rw} {s : MS} {r : Rw} (h : code[s.place]? = some r) : step code s = stepR r s := by
  unfold step
  rw [h]
/-- how many of the stack a row takes -/
def Rw.need : Rw → Nat
  | .op _ => 2
  | .say => 1
  | .set _ => 1
  | .unless _ => 1
  | _ => 0
def Rw.okv : Rw → Prop
  | .num n => 0 ≤ n ∧ n < 10000
  | .text z => Txt12 z
  | .name x => Nm8 x
  | .set x => Nm8 x
  | _ => True
/-- values in a state -/
structure MS.ok (s : MS) : Prop where
  nm : NmOk s.names
  st : ∀ v ∈ s.st, v.ok
  said : ∀ v ∈ s.said, v.ok
/-- a row can be done -/
structure Fit (code : List Rw) (s : MS) : Prop where
  row : ∃ r, code[s.place]? = some r ∧ r.need ≤ s.st.length ∧ r.okv
theorem step_ok {code : List Rw} {s : MS} (h : s.ok) (f : Fit code s) : (step code s).ok := by
  obtain ⟨r, hr, hn, hv⟩ := f.row
  rw [step_at hr]
  unfold stepR
  cases r with
  | num n => exact ⟨h.nm, fun v hv' => by rcases List.mem_cons.mp hv' with rfl | hv'; exact ⟨hv.1, by have := hv.2; omega⟩; exact h.st v hv', h.said⟩
  | text z => exact ⟨h.nm, fun v hv' => by rcases List.mem_cons.mp hv' with rfl | hv'; exact hv; exact h.st v hv', h.said⟩
  | name x => exact ⟨h.nm, fun v hv' => by rcases List.mem_cons.mp hv' with rfl | hv'; exact h.nm.get x; exact h.st v hv', h.said⟩
  | op g =>
    match hs : s.st, hn with
    | y :: x :: r, _ =>
      simp only
      have hx : x.ok := h.st x (by rw [hs]; simp)
      have hy : y.ok := h.st y (by rw [hs]; simp)
      cases e : wk g x y with
      | none => exact ⟨h.nm, fun v hv' => h.st v (by rw [hs]; exact hv'), h.said⟩
      | some z => exact ⟨h.nm, fun v hv' => by rcases List.mem_cons.mp hv' with rfl | hv'; exact wk_ok hx hy e; exact h.st v (by rw [hs]; exact List.mem_cons_of_mem _ (List.mem_cons_of_mem _ hv')), h.said⟩
  | say =>
    match hs : s.st, hn with
    | y :: r, _ =>
      simp only
      exact ⟨h.nm, fun v hv' => h.st v (by rw [hs]; exact List.mem_cons_of_mem _ hv'), fun v hv' => by rcases List.mem_append.mp hv' with hv' | hv'; exact h.said v hv'; rw [List.mem_singleton.mp hv']; exact h.st y (by rw [hs]; simp)⟩
  | set x =>
    match hs : s.st, hn with
    | y :: r, _ =>
      simp only
      exact ⟨h.nm.put hv (h.st y (by rw [hs]; simp)), fun v hv' => h.st v (by rw [hs]; exact List.mem_cons_of_mem _ hv'), h.said⟩
  | «unless» q =>
    match hs : s.st, hn with
    | y :: r, _ =>
      simp only
      exact ⟨h.nm, fun v hv' => h.st v (by rw [hs]; exact List.mem_cons_of_mem _ hv'), h.said⟩
  | go z => exact ⟨h.nm, h.st, h.said⟩
  | top => simp only; split <;> exact ⟨h.nm, h.st, h.said⟩
  | fin => exact ⟨h.nm, h.st, h.said⟩

/-! heights of what is half reckoned -/
def Ex.hs : Ex → Nat → List Nat
  | .num _, k => [k]
  | .text _, k => [k]
  | .name _, k => [k]
  | .op _ a b, k => a.hs k ++ b.hs (k + 1) ++ [k + 2]
mutual
def Sm.hs : Sm → List Nat
  | .say e => e.hs 0 ++ [1]
  | .set _ e => e.hs 0 ++ [1]
  | .ite e s t => e.hs 0 ++ [1] ++ hsL s ++ [0] ++ hsL t
  | .whl e s => [0] ++ e.hs 0 ++ [1] ++ hsL s ++ [0]
def hsL : List Sm → List Nat
  | [] => []
  | a :: r => a.hs ++ hsL r
end
theorem Ex.hs_len : ∀ (e : Ex) (k : Nat), (e.hs k).length = e.code.length
  | .num _, _ => rfl
  | .text _, _ => rfl
  | .name _, _ => rfl
  | .op _ a b, k => by simp only [Ex.hs, Ex.code, List.length_append, Ex.hs_len a, Ex.hs_len b]; rfl
mutual
theorem Sm.hs_len : ∀ (s : Sm) (b : Nat), s.hs.length = (s.code b).length
  | .say e, b => by simp [Sm.hs, Sm.code, Ex.hs_len]
  | .set x e, b => by simp [Sm.hs, Sm.code, Ex.hs_len]
  | .ite e s t, b => by
    simp only [Sm.hs, Sm.code, List.length_append, Ex.hs_len, hsL_len s (b + e.code.length + 1), hsL_len t (b + e.code.length + (codeL s (b + e.code.length + 1)).length + 2), List.length_cons, List.length_nil]
  | .whl e s, b => by
    simp only [Sm.hs, Sm.code, List.length_append, Ex.hs_len, hsL_len s (b + e.code.length + 2), List.length_cons, List.length_nil]
theorem hsL_len : ∀ (l : List Sm) (b : Nat), (hsL l).length = (codeL l b).length
  | [], b => rfl
  | a :: r, b => by simp only [hsL, codeL, List.length_append, Sm.hs_len a b, hsL_len r (b + (a.code b).length)]
end
/-- rows stands in l from b on -/
def At {α : Type} (l : List α) (b : Nat) (rows : List α) : Prop := ∀ i r, rows[i]? = some r → l[b + i]? = some r
section
variable {α : Type} {l r1 r2 : List α} {b : Nat} {x : α}
theorem At.split (h : At l b (r1 ++ r2)) : At l b r1 ∧ At l (b + r1.length) r2 := by
  refine ⟨fun i r e => h i r ?_, fun i r e => ?_⟩
  · have : i < r1.length := (List.getElem?_eq_some_iff.mp e).1
    rw [List.getElem?_append_left this]; exact e
  · have := h (r1.length + i) r (by rw [List.getElem?_append_right (by omega), Nat.add_sub_cancel_left]; exact e)
    rw [Nat.add_assoc]; exact this
theorem At.one (h : At l b [x]) : l[b]? = some x := h 0 x rfl
theorem At.all (l : List α) : At l 0 l := fun i r e => by rw [Nat.zero_add]; exact e
theorem At.app (l k : List α) : At (l ++ k) 0 l := fun i r e => by
  have : i < l.length := (List.getElem?_eq_some_iff.mp e).1
  rw [Nat.zero_add, List.getElem?_append_left this]; exact e
end
def Rng (b n : Nat) (P : Nat → Prop) : Prop := ∀ p, b ≤ p → p < b + n → P p
theorem Rng.app {b m n : Nat} {P : Nat → Prop} (h1 : Rng b m P) (h2 : Rng (b + m) n P) : Rng b (m + n) P := fun p a c => by
  by_cases h : p < b + m
  · exact h1 p a h
  · exact h2 p (by omega) (by omega)
theorem Rng.one {b : Nat} {P : Nat → Prop} (h : P b) : Rng b 1 P := fun p a c => by
  have : p = b := by omega
  rw [this]; exact h
/-- what a row does to heights -/
def RowTy (code : List Rw) (hts : List Nat) (p k : Nat) : Rw → Prop
  | .op _ => 2 ≤ k ∧ hts[p + 1]? = some (k - 1)
  | .say => 1 ≤ k ∧ hts[p + 1]? = some (k - 1)
  | .set _ => 1 ≤ k ∧ hts[p + 1]? = some (k - 1)
  | .unless q => 1 ≤ k ∧ hts[p + 1]? = some (k - 1) ∧ p < q ∧ hts[q]? = some (k - 1)
  | .go z => hts[z]? = some k ∧ (p < z ∨ code[z]? = some .top)
  | .top => k = 0 ∧ hts[p + 1]? = some 0
  | .fin => True
  | _ => hts[p + 1]? = some (k + 1)
def RowOk (code : List Rw) (hts : List Nat) (p : Nat) : Prop := ∃ r k, code[p]? = some r ∧ hts[p]? = some k ∧ RowTy code hts p k r ∧ r.okv ∧ k ≤ 12
theorem Ex.hs_le : ∀ (e : Ex) (k x : Nat), x ∈ e.hs k → x ≤ k + e.dep
  | .num _, k, x, h => by simp [Ex.hs] at h; omega
  | .text _, k, x, h => by simp [Ex.hs] at h; omega
  | .name _, k, x, h => by simp [Ex.hs] at h; omega
  | .op _ a b, k, x, h => by
    simp only [Ex.hs, List.mem_append, List.mem_singleton] at h
    have ha := a.dep_pos
    simp only [Ex.dep]
    rcases h with (h | h) | h
    · have := Ex.hs_le a k x h; omega
    · have := Ex.hs_le b (k + 1) x h; omega
    · omega
theorem Ex.hs_cons : ∀ (e : Ex) (k : Nat), ∃ r, e.hs k = k :: r
  | .num _, k => ⟨_, rfl⟩
  | .text _, k => ⟨_, rfl⟩
  | .name _, k => ⟨_, rfl⟩
  | .op _ a b, k => by
    obtain ⟨r, e⟩ := Ex.hs_cons a k
    exact ⟨_, by rw [Ex.hs, e]; rfl⟩
theorem Ex.ty {code : List Rw} {hts : List Nat} : ∀ (e : Ex) (k b : Nat), e.ok → k + e.dep ≤ 12 → At code b e.code → At hts b (e.hs k) → hts[b + e.code.length]? = some (k + 1) → Rng b e.code.length (RowOk code hts)
  | .num i, k, b, ok, hk, hc, hh, hn => Rng.one ⟨_, k, hc.one, hh.one, hn, ok, by omega⟩
  | .text i, k, b, ok, hk, hc, hh, hn => Rng.one ⟨_, k, hc.one, hh.one, hn, ok, by omega⟩
  | .name i, k, b, ok, hk, hc, hh, hn => Rng.one ⟨_, k, hc.one, hh.one, hn, ok, by omega⟩
  | .op s a1 b1, k, b, ok, hk, hc, hh, hn => by
    simp only [Ex.code] at hc hn ⊢
    simp only [Ex.hs] at hh
    simp only [Ex.dep] at hk
    obtain ⟨hc, hc3⟩ := hc.split
    obtain ⟨hc1, hc2⟩ := hc.split
    obtain ⟨hh, hh3⟩ := hh.split
    obtain ⟨hh1, hh2⟩ := hh.split
    rw [Ex.hs_len] at hh2
    rw [List.length_append, Ex.hs_len, Ex.hs_len] at hh3
    rw [List.length_append] at hc3
    have e2 : hts[b + a1.code.length]? = some (k + 1) := by
      obtain ⟨r, e⟩ := b1.hs_cons (k + 1)
      rw [e] at hh2
      exact hh2 0 _ rfl
    have e3 : hts[b + a1.code.length + b1.code.length]? = some (k + 1 + 1) := by
      have := hh3.one
      rw [← Nat.add_assoc] at this
      exact this
    rw [List.length_append, List.length_append]
    refine ((Ex.ty a1 k b ok.1 (by omega) hc1 hh1 e2).app (Ex.ty b1 (k + 1) _ ok.2 (by omega) hc2 hh2 e3)).app (Rng.one ?_)
    refine ⟨.op s, k + 2, hc3.one, hh3.one, ⟨by omega, ?_⟩, trivial, by have := a1.dep_pos; omega⟩
    simp only [List.length_append, List.length_cons, List.length_nil] at hn
    exact hn
theorem Sm.hs_cons (s : Sm) : ∃ r, s.hs = 0 :: r := by
  cases s with
  | say e => obtain ⟨r, h⟩ := e.hs_cons 0; exact ⟨_, by rw [Sm.hs, h]; rfl⟩
  | set x e => obtain ⟨r, h⟩ := e.hs_cons 0; exact ⟨_, by rw [Sm.hs, h]; rfl⟩
  | ite e s t => obtain ⟨r, h⟩ := e.hs_cons 0; exact ⟨_, by rw [Sm.hs, h]; rfl⟩
  | whl e s => exact ⟨_, by rw [Sm.hs]; rfl⟩
theorem hsL_first {hts : List Nat} {l : List Sm} {b : Nat} (h : At hts b (hsL l)) (hn : hts[b + (hsL l).length]? = some 0) : hts[b]? = some 0 := by
  cases l with
  | nil => exact hn
  | cons a r =>
    rw [hsL] at h
    obtain ⟨q, e⟩ := a.hs_cons
    have := h.split.1
    rw [e] at this
    exact this 0 _ rfl
section
variable {code : List Rw} {hts : List Nat}
theorem len1 {α : Type} (x : α) : [x].length = 1 := rfl
mutual
theorem Sm.ty : ∀ (s : Sm) (b : Nat), s.ok 5 → At code b (s.code b) → At hts b s.hs → hts[b + (s.code b).length]? = some 0 → Rng b (s.code b).length (RowOk code hts)
  | .say e, b, ok, hc, hh, hn => by
    simp only [Sm.code, Sm.hs] at hc hh hn ⊢
    obtain ⟨hc1, hc2⟩ := hc.split
    obtain ⟨hh1, hh2⟩ := hh.split
    rw [Ex.hs_len] at hh2
    rw [List.length_append, len1]
    rw [List.length_append, len1] at hn
    have := ok.2
    exact (Ex.ty e 0 b ok.1 (by omega) hc1 hh1 hh2.one).app (Rng.one ⟨.say, 1, hc2.one, hh2.one, ⟨Nat.le_refl _, hn⟩, trivial, by decide⟩)
  | .set x e, b, ok, hc, hh, hn => by
    simp only [Sm.code, Sm.hs] at hc hh hn ⊢
    obtain ⟨hc1, hc2⟩ := hc.split
    obtain ⟨hh1, hh2⟩ := hh.split
    rw [Ex.hs_len] at hh2
    rw [List.length_append, len1]
    rw [List.length_append, len1] at hn
    have := ok.2.2
    exact (Ex.ty e 0 b ok.2.1 (by omega) hc1 hh1 hh2.one).app (Rng.one ⟨.set x, 1, hc2.one, hh2.one, ⟨Nat.le_refl _, hn⟩, ok.1, by decide⟩)
  | .ite e s t, b, ok, hc, hh, hn => by
    simp only [Sm.code, Sm.hs] at hc hh hn ⊢
    obtain ⟨hc, hc5⟩ := hc.split
    obtain ⟨hc, hc4⟩ := hc.split
    obtain ⟨hc, hc3⟩ := hc.split
    obtain ⟨hc1, hc2⟩ := hc.split
    obtain ⟨hh, hh5⟩ := hh.split
    obtain ⟨hh, hh4⟩ := hh.split
    obtain ⟨hh, hh3⟩ := hh.split
    obtain ⟨hh1, hh2⟩ := hh.split
    have ls := hsL_len s (b + e.code.length + 1)
    have lt := hsL_len t (b + e.code.length + (codeL s (b + e.code.length + 1)).length + 2)
    generalize hq : b + e.code.length + (codeL s (b + e.code.length + 1)).length + 2 = q at *
    simp only [List.length_append, len1, Ex.hs_len, ls, lt] at hc2 hc3 hc4 hc5 hh2 hh3 hh4 hh5 hn
    simp only [List.length_append, len1]
    have q3 : b + (e.code.length + 1) = b + e.code.length + 1 := by omega
    have q4 : b + (e.code.length + 1 + (codeL s (b + e.code.length + 1)).length) = b + e.code.length + 1 + (codeL s (b + e.code.length + 1)).length := by omega
    have q5 : b + (e.code.length + 1 + (codeL s (b + e.code.length + 1)).length + 1) = q := by omega
    have q6 : b + (e.code.length + 1 + (codeL s (b + e.code.length + 1)).length + 1 + (codeL t q).length) = q + (codeL t q).length := by omega
    rw [q3] at hc3 hh3
    rw [q4] at hc4 hh4
    rw [q5] at hc5 hh5
    rw [q6] at hn
    have e1 := ok.1.2
    have z5 : hts[q]? = some 0 := hsL_first hh5 (by rw [lt]; exact hn)
    have z3 : hts[b + e.code.length + 1]? = some 0 := hsL_first hh3 (by rw [ls]; exact hh4.one)
    refine ((((Ex.ty e 0 b ok.1.1 (by omega) hc1 hh1 hh2.one).app (Rng.one ?_)).app ?_).app (Rng.one ?_)).app ?_
    · exact ⟨.unless q, 1, hc2.one, hh2.one, ⟨Nat.le_refl _, z3, by omega, z5⟩, trivial, by decide⟩
    · rw [q3]
      exact tyL s _ ok.2.1 hc3 hh3 hh4.one
    · rw [q4]
      refine ⟨.go (q + (codeL t q).length), 0, hc4.one, hh4.one, ⟨hn, .inl (by omega)⟩, trivial, by decide⟩
    · rw [q5]
      exact tyL t _ ok.2.2 hc5 hh5 hn
  | .whl e s, b, ok, hc, hh, hn => by
    simp only [Sm.code, Sm.hs] at hc hh hn ⊢
    obtain ⟨hc, hc5⟩ := hc.split
    obtain ⟨hc, hc4⟩ := hc.split
    obtain ⟨hc, hc3⟩ := hc.split
    obtain ⟨hc1, hc2⟩ := hc.split
    obtain ⟨hh, hh5⟩ := hh.split
    obtain ⟨hh, hh4⟩ := hh.split
    obtain ⟨hh, hh3⟩ := hh.split
    obtain ⟨hh1, hh2⟩ := hh.split
    have ls := hsL_len s (b + e.code.length + 2)
    simp only [List.length_append, len1, Ex.hs_len, ls] at hc2 hc3 hc4 hc5 hh2 hh3 hh4 hh5 hn
    simp only [List.length_append, len1]
    have q3 : b + (1 + e.code.length) = b + 1 + e.code.length := by omega
    have q4 : b + (1 + e.code.length + 1) = b + e.code.length + 2 := by omega
    have q5 : b + (1 + e.code.length + 1 + (codeL s (b + e.code.length + 2)).length) = b + e.code.length + 2 + (codeL s (b + e.code.length + 2)).length := by omega
    have q6 : b + (1 + e.code.length + 1 + (codeL s (b + e.code.length + 2)).length + 1) = b + e.code.length + (codeL s (b + e.code.length + 2)).length + 3 := by omega
    rw [q3] at hc3 hh3
    rw [q4] at hc4 hh4
    rw [q5] at hc5 hh5
    rw [q6] at hn
    have e1 := ok.1.2
    obtain ⟨er, ee⟩ := e.hs_cons 0
    have z2 : hts[b + 1]? = some 0 := by
      rw [ee] at hh2
      exact hh2 0 _ rfl
    have z4 : hts[b + e.code.length + 2]? = some 0 := hsL_first hh4 (by rw [ls]; exact hh5.one)
    refine ((((Rng.one ?_).app (Ex.ty e 0 (b + 1) ok.1.1 (by omega) hc2 hh2 hh3.one)).app (Rng.one ?_)).app ?_).app (Rng.one ?_)
    · exact ⟨.top, 0, hc1.one, hh1.one, ⟨rfl, z2⟩, trivial, by decide⟩
    · rw [q3]
      exact ⟨.unless _, 1, hc3.one, hh3.one, ⟨Nat.le_refl _, by rw [show b + 1 + e.code.length + 1 = b + e.code.length + 2 by omega]; exact z4, by omega, hn⟩, trivial, by decide⟩
    · rw [q4]
      exact tyL s _ ok.2 hc4 hh4 hh5.one
    · rw [q5]
      exact ⟨.go b, 0, hc5.one, hh5.one, ⟨hh1.one, .inr hc1.one⟩, trivial, by decide⟩
theorem tyL : ∀ (l : List Sm) (b : Nat), okL 5 l → At code b (codeL l b) → At hts b (hsL l) → hts[b + (codeL l b).length]? = some 0 → Rng b (codeL l b).length (RowOk code hts)
  | [], b, _, _, _, _ => fun p h1 h2 => by simp only [codeL, List.length_nil] at h2; omega
  | a :: r, b, ok, hc, hh, hn => by
    simp only [codeL, hsL] at hc hh hn ⊢
    obtain ⟨hc1, hc2⟩ := hc.split
    obtain ⟨hh1, hh2⟩ := hh.split
    rw [Sm.hs_len a b] at hh2
    rw [List.length_append] at hn ⊢
    rw [← Nat.add_assoc] at hn
    refine (Sm.ty a b ok.1 hc1 hh1 ?_).app (tyL r _ ok.2 hc2 hh2 hn)
    exact hsL_first hh2 (by rw [hsL_len r (b + (a.code b).length)]; exact hn)
end
end
/-- the code of a program, with its heights -/
structure Ty (code : List Rw) (hts : List Nat) : Prop where
  rows : ∀ p, p < code.length → RowOk code hts p
  len : hts.length = code.length
  zero : hts[0]? = some 0
theorem prog_ty {p : List Sm} (ok : okL 5 p) : Ty (progC p) (hsL p ++ [0]) := by
  have hl := hsL_len p 0
  have hz : (hsL p ++ [0])[0 + (codeL p 0).length]? = some 0 := by rw [Nat.zero_add, List.getElem?_append_right (by omega), hl]; simp
  have h1 : At (hsL p ++ [0]) 0 (hsL p) := At.app _ _
  have h := tyL (code := progC p) (hts := hsL p ++ [0]) p 0 ok (At.app _ _) h1 hz
  refine ⟨fun q hq => ?_, by simp [progC, hl], hsL_first h1 (by rw [hl]; exact hz)⟩
  by_cases hlt : q < (codeL p 0).length
  · exact h q (Nat.zero_le _) (by omega)
  · have e : q = (codeL p 0).length := by simp only [progC, List.length_append, len1] at hq; omega
    subst e
    exact ⟨.fin, 0, by simp [progC], by rw [Nat.zero_add] at hz; exact hz, trivial, trivial, by decide⟩
theorem RowTy.need {code : List Rw} {hts : List Nat} {p k : Nat} {r : Rw} (h : RowTy code hts p k r) : r.need ≤ k := by
  cases r <;> simp only [RowTy, Rw.need] at h ⊢ <;> omega
/-- a state within typed code; x more lie under what is half reckoned -/
structure In (code : List Rw) (hts : List Nat) (x : Nat) (s : MS) : Prop where
  ok : s.ok
  at_ : ∃ k, hts[s.place]? = some k ∧ s.st.length = k + x
theorem In.lt {code : List Rw} {hts : List Nat} {x : Nat} {s : MS} (T : Ty code hts) (i : In code hts x s) : s.place < code.length := by
  obtain ⟨k, h, _⟩ := i.at_
  have := (List.getElem?_eq_some_iff.mp h).1
  rw [← T.len]; exact this
theorem In.fit {code : List Rw} {hts : List Nat} {x : Nat} {s : MS} (T : Ty code hts) (i : In code hts x s) : Fit code s := by
  obtain ⟨r, k, h1, h2, h3, h4, h5⟩ := T.rows _ (i.lt T)
  obtain ⟨k', e, hl⟩ := i.at_
  rw [h2] at e
  cases e
  exact ⟨r, h1, by have := h3.need; omega, h4⟩
theorem In.small {code : List Rw} {hts : List Nat} {x : Nat} {s : MS} (T : Ty code hts) (i : In code hts x s) : s.st.length ≤ 12 + x := by
  obtain ⟨r, k, h1, h2, h3, h4, h5⟩ := T.rows _ (i.lt T)
  obtain ⟨k', e, hl⟩ := i.at_
  rw [h2] at e
  cases e
  omega
theorem In.step {code : List Rw} {hts : List Nat} {x : Nat} {s : MS} (T : Ty code hts) (i : In code hts x s) : In code hts x (step code s) := by
  refine ⟨step_ok i.ok (i.fit T), ?_⟩
  obtain ⟨r, k, h1, h2, h3, h4, h5⟩ := T.rows _ (i.lt T)
  obtain ⟨k', e, hl⟩ := i.at_
  rw [h2] at e
  cases e
  rw [step_at h1]
  unfold stepR
  cases r with
  | num n => exact ⟨k + 1, h3, by simp only [List.length_cons]; omega⟩
  | text n => exact ⟨k + 1, h3, by simp only [List.length_cons]; omega⟩
  | name n => exact ⟨k + 1, h3, by simp only [List.length_cons]; omega⟩
  | op g =>
    have h6 : 2 ≤ k := h3.1
    match hs : s.st with
    | [] => rw [hs] at hl; simp only [List.length_nil] at hl; omega
    | [_] => rw [hs] at hl; simp only [List.length_cons, List.length_nil] at hl; omega
    | y :: z :: q =>
      simp only
      rw [hs] at hl
      simp only [List.length_cons] at hl
      split
      · exact ⟨k - 1, h3.2, by simp only [List.length_cons]; omega⟩
      · exact ⟨k, h2, by simp only [List.length_cons]; omega⟩
  | say =>
    have h6 : 1 ≤ k := h3.1
    match hs : s.st with
    | [] => rw [hs] at hl; simp only [List.length_nil] at hl; omega
    | y :: q =>
      simp only
      rw [hs] at hl
      simp only [List.length_cons] at hl
      exact ⟨k - 1, h3.2, by omega⟩
  | set g =>
    have h6 : 1 ≤ k := h3.1
    match hs : s.st with
    | [] => rw [hs] at hl; simp only [List.length_nil] at hl; omega
    | y :: q =>
      simp only
      rw [hs] at hl
      simp only [List.length_cons] at hl
      exact ⟨k - 1, h3.2, by omega⟩
  | «unless» g =>
    have h6 : 1 ≤ k := h3.1
    match hs : s.st with
    | [] => rw [hs] at hl; simp only [List.length_nil] at hl; omega
    | y :: q =>
      simp only
      rw [hs] at hl
      simp only [List.length_cons] at hl
      split
      · exact ⟨k - 1, h3.2.1, by omega⟩
      · exact ⟨k - 1, h3.2.2.2, by omega⟩
  | go z => exact ⟨k, h3.1, hl⟩
  | top =>
    simp only
    split
    · exact ⟨k, h2, hl⟩
    · refine ⟨0, h3.2, ?_⟩
      have := h3.1
      simp only
      omega
  | fin => exact ⟨k, h2, hl⟩

/-! runs: what is reached, measures, expressions -/
inductive Reach (code : List Rw) : MS → MS → Prop
  | refl (s : MS) : Reach code s s
  | step {s t : MS} : s.last = none → Reach code (step code s) t → Reach code s t
section
variable {code : List Rw} {hts : List Nat} {s t u : MS} {x : Nat}
theorem Reach.trans (a : Reach code s t) (b : Reach code t u) : Reach code s u := by
  induction a with
  | refl s => exact b
  | step h _ ih => exact .step h (ih b)
theorem Reach.one (h : s.last = none) : Reach code s (Hn.step code s) := .step h (.refl _)
theorem Reach.snoc (a : Reach code s t) (h : t.last = none) : Reach code s (Hn.step code t) := a.trans (.one h)
theorem Reach.ended (a : Reach code s t) (h : s.last ≠ none) : t = s := by
  cases a with
  | refl => rfl
  | step h' _ => exact absurd h' h
/-- where it ends is told -/
theorem Reach.det (a : Reach code s t) (ht : t.last ≠ none) (b : Reach code s u) (hu : u.last ≠ none) : t = u := by
  induction a with
  | refl s => exact (b.ended ht).symm
  | step h _ ih =>
    cases b with
    | refl => exact absurd h hu
    | step _ b => exact ih ht b
/-- of two that are reached one comes first -/
theorem Reach.to_end (a : Reach code s t) (b : Reach code s u) (hu : u.last ≠ none) : Reach code t u := by
  induction a with
  | refl s => exact b
  | step h _ ih =>
    cases b with
    | refl => exact absurd h hu
    | step _ b => exact ih b
theorem Reach.in_ (T : Ty code hts) (a : Reach code s t) (i : In code hts x s) : In code hts x t := by
  induction a with
  | refl s => exact i
  | step _ _ ih => exact ih (i.step T)
theorem stepR_left (r : Rw) (s : MS) : (stepR r s).left ≤ s.left := by
  unfold stepR
  repeat' split
  all_goals first | exact Int.le_refl _ | (simp only; omega)
theorem step_left (code : List Rw) (s : MS) : (Hn.step code s).left ≤ s.left := by
  unfold Hn.step
  split
  · exact stepR_left _ _
  · exact Int.le_refl _
theorem Reach.left (a : Reach code s t) : t.left ≤ s.left := by
  induction a with
  | refl s => exact Int.le_refl _
  | step _ _ ih => exact Int.le_trans ih (step_left _ _)
end
/-! ### expressions -/
/-- its value, or the place of the sign that makes nothing -/
def Ex.val (m : Nms) : Ex → Nat → Sum Nat Vl
  | .num n, _ => .inr (.n n)
  | .text z, _ => .inr (.t z)
  | .name x, _ => .inr (ngetD m x)
  | .op g a b, p => (match a.val m p with
    | .inl q => .inl q
    | .inr x => (match b.val m (p + a.code.length) with
      | .inl q => .inl q
      | .inr y => (match wk g x y with
        | some z => .inr z
        | none => .inl (p + a.code.length + b.code.length))))
theorem Ex.val_ok {m : Nms} (hm : NmOk m) : ∀ (e : Ex) (p : Nat) (v : Vl), e.ok → e.val m p = .inr v → v.ok
  | .num n, p, v, ok, h => by simp only [Ex.val] at h; cases h; exact ⟨ok.1, by have := ok.2; omega⟩
  | .text z, p, v, ok, h => by simp only [Ex.val] at h; cases h; exact ok
  | .name x, p, v, ok, h => by simp only [Ex.val] at h; cases h; exact hm.get x
  | .op g a b, p, v, ok, h => by
    simp only [Ex.val] at h
    cases e1 : a.val m p with
    | inl q => rw [e1] at h; cases h
    | inr x =>
      rw [e1] at h
      simp only at h
      cases e2 : b.val m (p + a.code.length) with
      | inl q => rw [e2] at h; cases h
      | inr y =>
        rw [e2] at h
        simp only at h
        cases e3 : wk g x y with
        | none => rw [e3] at h; cases h
        | some z =>
          rw [e3] at h
          cases h
          exact wk_ok (Ex.val_ok hm a p x ok.1 e1) (Ex.val_ok hm b _ y ok.2 e2) e3
section
variable {code : List Rw}
theorem Ex.reach : ∀ (e : Ex) (s : MS), s.last = none → At code s.place e.code →
    (∀ v, e.val s.names s.place = .inr v → Reach code s { s with st := v :: s.st, place := s.place + e.code.length }) ∧
    (∀ p, e.val s.names s.place = .inl p → ∃ st pl, Reach code s { s with st := st, place := pl, last := some (.mixed p) })
  | .num n, s, hl, hc => by
    refine ⟨fun v h => ?_, fun p h => by simp only [Ex.val] at h; cases h⟩
    simp only [Ex.val] at h
    cases h
    have := Reach.one (code := code) hl
    rw [step_at hc.one] at this
    exact this
  | .text n, s, hl, hc => by
    refine ⟨fun v h => ?_, fun p h => by simp only [Ex.val] at h; cases h⟩
    simp only [Ex.val] at h
    cases h
    have := Reach.one (code := code) hl
    rw [step_at hc.one] at this
    exact this
  | .name n, s, hl, hc => by
    refine ⟨fun v h => ?_, fun p h => by simp only [Ex.val] at h; cases h⟩
    simp only [Ex.val] at h
    cases h
    have := Reach.one (code := code) hl
    rw [step_at hc.one] at this
    exact this
  | .op g a b, s, hl, hc => by
    simp only [Ex.code] at hc
    obtain ⟨hc, hc3⟩ := hc.split
    obtain ⟨hc1, hc2⟩ := hc.split
    obtain ⟨a1, a2⟩ := Ex.reach a s hl hc1
    cases e1 : a.val s.names s.place with
    | inl q =>
      refine ⟨fun v h => ?_, fun p h => ?_⟩
      · simp only [Ex.val, e1] at h; cases h
      · simp only [Ex.val, e1] at h; cases h; exact a2 q e1
    | inr x =>
      have r1 := a1 x e1
      obtain ⟨b1, b2⟩ := Ex.reach b { s with st := x :: s.st, place := s.place + a.code.length } hl hc2
      simp only at b1 b2
      cases e2 : b.val s.names (s.place + a.code.length) with
      | inl q =>
        refine ⟨fun v h => ?_, fun p h => ?_⟩
        · simp only [Ex.val, e1, e2] at h; cases h
        · simp only [Ex.val, e1, e2] at h
          cases h
          obtain ⟨st, pl, r2⟩ := b2 q e2
          exact ⟨st, pl, r1.trans r2⟩
      | inr y =>
        have r2 := r1.trans (b1 y e2)
        rw [List.length_append] at hc3
        have e4 := step_at (code := code) (s := { s with st := y :: x :: s.st, place := s.place + a.code.length + b.code.length }) (r := .op g) (by have := hc3.one; rw [← Nat.add_assoc] at this; exact this)
        have r3 := r2.snoc (by exact hl)
        rw [e4] at r3
        unfold stepR at r3
        simp only at r3
        cases e3 : wk g x y with
        | none =>
          refine ⟨fun v h => ?_, fun p h => ?_⟩
          · simp only [Ex.val, e1, e2, e3] at h; cases h
          · simp only [Ex.val, e1, e2, e3] at h
            cases h
            rw [e3] at r3
            exact ⟨_, _, r3⟩
        | some z =>
          refine ⟨fun v h => ?_, fun p h => ?_⟩
          · simp only [Ex.val, e1, e2, e3] at h
            cases h
            rw [e3] at r3
            have e5 : s.place + (Ex.op g a b).code.length = s.place + a.code.length + b.code.length + 1 := by simp only [Ex.code, List.length_append, List.length_cons, List.length_nil]; omega
            rw [e5]
            exact r3
          · simp only [Ex.val, e1, e2, e3] at h; cases h
end
/-! ### a run comes to its end -/
def isTop (code : List Rw) (p : Nat) : Bool := match code[p]? with
  | some .top => true
  | _ => false
/-- falls with each step -/
def mu (code : List Rw) (s : MS) : Nat := if isTop code s.place then s.left.toNat * (code.length + 2) + (code.length + 1) else (s.left.toNat + 1) * (code.length + 2) + (code.length - s.place)
theorem isTop_iff {code : List Rw} {p : Nat} : isTop code p = true ↔ code[p]? = some .top := by
  unfold isTop
  split
  · next h => simp [h]
  · next h => exact ⟨fun z => (by cases z), fun z => absurd z h⟩
theorem mu_fwd {code : List Rw} {s t : MS} (h1 : isTop code s.place = false) (hl : t.left = s.left) (hp : s.place < t.place ∨ isTop code t.place = true) (hs : s.place < code.length) : mu code t < mu code s := by
  unfold mu
  rw [h1, hl]
  simp only [Bool.false_eq_true, if_false]
  rw [Nat.succ_mul]
  split
  · omega
  · next h2 =>
    rcases hp with hp | hp
    · omega
    · exact absurd hp h2
theorem mu_step {code : List Rw} {hts : List Nat} {x : Nat} {s : MS} (T : Ty code hts) (i : In code hts x s) (h0 : 0 ≤ s.left) (hl : (step code s).last = none) : mu code (step code s) < mu code s ∧ 0 ≤ (step code s).left := by
  have lt := i.lt T
  obtain ⟨r, k, h1, h2, h3, h4, h5⟩ := T.rows _ lt
  obtain ⟨k', e, hlen⟩ := i.at_
  rw [h2] at e
  cases e
  have nt : r ≠ .top → isTop code s.place = false := fun h => by
    cases e : isTop code s.place with
    | false => rfl
    | true => rw [isTop_iff, h1] at e; cases e; exact absurd rfl h
  rw [step_at h1] at hl ⊢
  unfold stepR at hl ⊢
  cases r with
  | num n => exact ⟨mu_fwd (nt (by simp)) rfl (.inl (Nat.lt_succ_self _)) lt, h0⟩
  | text n => exact ⟨mu_fwd (nt (by simp)) rfl (.inl (Nat.lt_succ_self _)) lt, h0⟩
  | name n => exact ⟨mu_fwd (nt (by simp)) rfl (.inl (Nat.lt_succ_self _)) lt, h0⟩
  | op g =>
    have h6 : 2 ≤ k := h3.1
    match hs : s.st with
    | [] => rw [hs] at hlen; simp only [List.length_nil] at hlen; omega
    | [_] => rw [hs] at hlen; simp only [List.length_cons, List.length_nil] at hlen; omega
    | y :: z :: q =>
      simp only [hs] at hl ⊢
      split at hl
      · exact ⟨mu_fwd (nt (by simp)) rfl (.inl (Nat.lt_succ_self _)) lt, h0⟩
      · cases hl
  | say =>
    have h6 : 1 ≤ k := h3.1
    match hs : s.st with
    | [] => rw [hs] at hlen; simp only [List.length_nil] at hlen; omega
    | y :: q => exact ⟨mu_fwd (nt (by simp)) rfl (.inl (Nat.lt_succ_self _)) lt, h0⟩
  | set g =>
    have h6 : 1 ≤ k := h3.1
    match hs : s.st with
    | [] => rw [hs] at hlen; simp only [List.length_nil] at hlen; omega
    | y :: q => exact ⟨mu_fwd (nt (by simp)) rfl (.inl (Nat.lt_succ_self _)) lt, h0⟩
  | «unless» g =>
    have h6 : 1 ≤ k := h3.1
    match hs : s.st with
    | [] => rw [hs] at hlen; simp only [List.length_nil] at hlen; omega
    | y :: q =>
      simp only
      refine ⟨mu_fwd (nt (by simp)) rfl (.inl ?_) lt, h0⟩
      simp only
      have := h3.2.2.1
      split <;> omega
  | go z =>
    refine ⟨mu_fwd (nt (by simp)) rfl ?_ lt, h0⟩
    rcases h3.2 with h | h
    · exact .inl h
    · exact .inr (isTop_iff.mpr h)
  | top =>
    simp only at hl ⊢
    split at hl
    · cases hl
    · next hn =>
      rw [if_neg hn]
      refine ⟨?_, by simp only; omega⟩
      have ht : isTop code s.place = true := isTop_iff.mpr h1
      unfold mu
      rw [ht]
      simp only [if_true]
      have e : (s.left - 1).toNat + 1 = s.left.toNat := by omega
      split
      · have : (s.left - 1).toNat * (code.length + 2) + (code.length + 2) = s.left.toNat * (code.length + 2) := by rw [← Nat.succ_mul, ← e]
        omega
      · rw [e]; omega
  | fin => cases hl
/-! ### how much is told -/
def isSay : Rw → Bool
  | .say => true
  | _ => false
def says (code : List Rw) (p : Nat) : Nat := ((code.take p).filter isSay).length
def saysN (code : List Rw) : Nat := says code code.length
theorem says_mono {code : List Rw} {p q : Nat} (h : p ≤ q) : says code p ≤ says code q := by
  unfold says
  have e : code.take q = code.take p ++ (code.drop p).take (q - p) := by
    rw [← List.take_add, Nat.add_sub_cancel' h]
  rw [e, List.filter_append, List.length_append]
  omega
theorem says_le (code : List Rw) (p : Nat) : says code p ≤ saysN code := by
  by_cases h : p ≤ code.length
  · exact says_mono h
  · unfold saysN says
    rw [List.take_of_length_le (by omega), List.take_length]
    exact Nat.le_refl _
theorem says_succ {code : List Rw} {p : Nat} (h : code[p]? = some .say) : says code (p + 1) = says code p + 1 := by
  unfold says
  rw [List.take_succ, h]
  simp [List.filter_append, List.filter_cons, isSay]
/-- what may still be told, with what was -/
def phi (code : List Rw) (s : MS) : Nat := s.said.length + (if isTop code s.place then s.left.toNat else s.left.toNat + 1) * saysN code + (saysN code - says code s.place)
theorem phi_fwd {code : List Rw} {s t : MS} (h1 : isTop code s.place = false) (hl : t.left = s.left) (hd : t.said = s.said) (hp : s.place ≤ t.place ∨ isTop code t.place = true) : phi code t ≤ phi code s := by
  unfold phi
  rw [h1, hl, hd]
  simp only [Bool.false_eq_true, if_false]
  have a := says_le code s.place
  have b := says_le code t.place
  have e : (s.left.toNat + 1) * saysN code = s.left.toNat * saysN code + saysN code := Nat.succ_mul _ _
  split
  · omega
  · next h2 =>
    rcases hp with hp | hp
    · have := says_mono (code := code) hp
      omega
    · exact absurd hp h2
theorem phi_step {code : List Rw} {hts : List Nat} {x : Nat} {s : MS} (T : Ty code hts) (i : In code hts x s) (h0 : 0 ≤ s.left) : phi code (step code s) ≤ phi code s ∨ (step code s).last ≠ none := by
  have lt := i.lt T
  obtain ⟨r, k, h1, h2, h3, h4, h5⟩ := T.rows _ lt
  obtain ⟨k', e, hlen⟩ := i.at_
  rw [h2] at e
  cases e
  have nt : r ≠ .top → isTop code s.place = false := fun h => by
    cases e : isTop code s.place with
    | false => rfl
    | true => rw [isTop_iff, h1] at e; cases e; exact absurd rfl h
  rw [step_at h1]
  unfold stepR
  cases r with
  | num n => exact .inl (phi_fwd (nt (by simp)) rfl rfl (.inl (Nat.le_succ _)))
  | text n => exact .inl (phi_fwd (nt (by simp)) rfl rfl (.inl (Nat.le_succ _)))
  | name n => exact .inl (phi_fwd (nt (by simp)) rfl rfl (.inl (Nat.le_succ _)))
  | op g =>
    have h6 : 2 ≤ k := h3.1
    match hs : s.st with
    | [] => rw [hs] at hlen; simp only [List.length_nil] at hlen; omega
    | [_] => rw [hs] at hlen; simp only [List.length_cons, List.length_nil] at hlen; omega
    | y :: z :: q =>
      simp only
      split
      · exact .inl (phi_fwd (nt (by simp)) rfl rfl (.inl (Nat.le_succ _)))
      · exact .inr (by simp)
  | say =>
    have h6 : 1 ≤ k := h3.1
    match hs : s.st with
    | [] => rw [hs] at hlen; simp only [List.length_nil] at hlen; omega
    | y :: q =>
      simp only
      refine .inl ?_
      unfold phi
      simp only [nt (by simp : Rw.say ≠ .top), Bool.false_eq_true, if_false, List.length_append, List.length_cons, List.length_nil]
      have e1 := says_succ h1
      have e2 := says_le code (s.place + 1)
      split
      · rw [Nat.succ_mul]; omega
      · rw [Nat.succ_mul]; omega
  | set g =>
    have h6 : 1 ≤ k := h3.1
    match hs : s.st with
    | [] => rw [hs] at hlen; simp only [List.length_nil] at hlen; omega
    | y :: q => exact .inl (phi_fwd (nt (by simp)) rfl rfl (.inl (Nat.le_succ _)))
  | «unless» g =>
    have h6 : 1 ≤ k := h3.1
    match hs : s.st with
    | [] => rw [hs] at hlen; simp only [List.length_nil] at hlen; omega
    | y :: q =>
      simp only
      refine .inl (phi_fwd (nt (by simp)) rfl rfl (.inl ?_))
      simp only
      have := h3.2.2.1
      split <;> omega
  | go z =>
    refine .inl (phi_fwd (nt (by simp)) rfl rfl ?_)
    rcases h3.2 with h | h
    · exact .inl (Nat.le_of_lt h)
    · exact .inr (isTop_iff.mpr h)
  | top =>
    simp only
    split
    · exact .inr (by simp)
    · next hn =>
      refine .inl ?_
      have ht : isTop code s.place = true := isTop_iff.mpr h1
      unfold phi
      rw [ht]
      simp only [if_true]
      have e : (s.left - 1).toNat + 1 = s.left.toNat := by omega
      have e1 := says_mono (code := code) (show s.place ≤ s.place + 1 by omega)
      split
      · have : (s.left - 1).toNat * saysN code ≤ s.left.toNat * saysN code := Nat.mul_le_mul_right _ (by omega)
        omega
      · rw [e]; omega
  | fin => exact .inr (by simp)
/-- within the bound all along -/
theorem Reach.phi {code : List Rw} {hts : List Nat} {x : Nat} {s t : MS} (T : Ty code hts) (a : Reach code s t) : In code hts x s → 0 ≤ s.left → t.said.length ≤ Hn.phi code s + 1 := by
  induction a with
  | refl s => intro _ _; unfold Hn.phi; omega
  | step hl r ih =>
    rename_i s t
    intro i h0
    by_cases he : (Hn.step code s).last = none
    · have h1 := ih (i.step T) (mu_step T i h0 he).2
      rcases phi_step T i h0 with h | h
      · omega
      · exact absurd he h
    · have e := r.ended he
      rw [e]
      have h1 : (Hn.step code s).said.length ≤ s.said.length + 1 := by
        unfold Hn.step
        split
        · unfold stepR
          repeat' split
          all_goals first | omega | (simp only [List.length_append, List.length_cons, List.length_nil]; omega)
        · omega
      unfold Hn.phi
      omega
/-- all that is reached stays below n -/
def Bd (code : List Rw) (s : MS) : Prop := ∀ t, Reach code s t → t.said.length < 8000000
theorem Bd.reach {code : List Rw} {s t : MS} (b : Bd code s) (r : Reach code s t) : Bd code t := fun u h => b u (r.trans h)
theorem bd_of {code : List Rw} {hts : List Nat} {x : Nat} {s : MS} (T : Ty code hts) (i : In code hts x s) (h0 : 0 ≤ s.left) (h : Hn.phi code s + 1 < 8000000) : Bd code s := fun t r => Nat.lt_of_le_of_lt (r.phi T i h0) h

/-! quick rows, made: a mirror -/
/-! ### tables by keys -/
section
variable {α β : Type} [DecidableEq α]
def aget (m : List (α × β)) (k : α) : Option β := (m.find? fun p => decide (p.1 = k)).map (·.2)
def aput (m : List (α × β)) (k : α) (v : β) : List (α × β) := if (m.any fun p => decide (p.1 = k)) = true then m.map (fun p => if p.1 = k then (p.1, v) else p) else m ++ [(k, v)]
def kvG (f : α → Key) (g : β → V) (m : List (α × β)) : List (Key × V) := m.map fun p => (f p.1, g p.2)
theorem aget_nil (k : α) : aget ([] : List (α × β)) k = none := rfl
theorem aget_cons (p : α × β) (r : List (α × β)) (k : α) : aget (p :: r) k = if p.1 = k then some p.2 else aget r k := by
  unfold aget
  rw [List.find?_cons]
  by_cases h : p.1 = k
  · rw [decide_eq_true h, if_pos h]; rfl
  · rw [decide_eq_false h, if_neg h]
theorem valV_kvG {f : α → Key} {g : β → V} (inj : ∀ a b, f a = f b → a = b) (k : α) : ∀ m : List (α × β), valV (kvG f g m) (f k) = (aget m k).map g
  | [] => rfl
  | p :: r => by
    have ih := valV_kvG (g := g) inj k r
    rw [aget_cons]
    by_cases e : p.1 = k
    · rw [show kvG f g (p :: r) = (f p.1, g p.2) :: kvG f g r from rfl, valV_pos (by rw [e]), if_pos e]; rfl
    · rw [show kvG f g (p :: r) = (f p.1, g p.2) :: kvG f g r from rfl, valV_neg (fun z => e (inj _ _ z)), ih, if_neg e]
theorem kvG_length (f : α → Key) (g : β → V) (m : List (α × β)) : (kvG f g m).length = m.length := by simp [kvG]
theorem putK_kvG {f : α → Key} {g : β → V} (inj : ∀ a b, f a = f b → a = b) (m : List (α × β)) (k : α) (v : β) : putK (kvG f g m) (f k) (g v) = kvG f g (aput m k v) := by
  have e : ((kvG f g m).any fun kv => decide (kv.1 = f k)) = m.any fun p => decide (p.1 = k) := by
    simp only [kvG, List.any_map]
    congr 1
    funext p
    by_cases h : p.1 = k
    · simp [h]
    · have nf : ¬ f p.1 = f k := fun z => h (inj _ _ z)
      simp [h, nf]
  unfold putK aput
  rw [e]
  split
  · simp only [kvG, List.map_map]
    congr 1
    funext p
    by_cases h : p.1 = k
    · simp [h]
    · have nf : ¬ f p.1 = f k := fun z => h (inj _ _ z)
      simp [h, nf]
  · simp [kvG]
theorem aput_keys (m : List (α × β)) (k : α) (v : β) : (aput m k v).map (·.1) = if k ∈ m.map (·.1) then m.map (·.1) else m.map (·.1) ++ [k] := by
  have e : (m.any fun p => decide (p.1 = k)) = decide (k ∈ m.map (·.1)) := by
    rw [Bool.eq_iff_iff]
    simp only [List.any_eq_true, decide_eq_true_eq, List.mem_map]
  unfold aput
  rw [e]
  by_cases h : k ∈ m.map (·.1)
  · rw [if_pos (decide_eq_true h), if_pos h, List.map_map]
    congr 1
    funext p
    by_cases h : p.1 = k <;> simp [h]
  · rw [if_neg (by simpa using h), if_neg h]
    simp
theorem aget_put (m : List (α × β)) (k j : α) (v : β) : aget (aput m k v) j = if j = k then some v else aget m j := by
  unfold aput
  by_cases h : (m.any fun p => decide (p.1 = k)) = true
  · rw [if_pos h]
    induction m with
    | nil => simp at h
    | cons p r ih =>
      rw [List.map_cons, aget_cons]
      by_cases hp : p.1 = k
      · simp only [hp, if_true]
        rw [aget_cons]
        by_cases hj : j = k
        · subst hj; simp
        · rw [if_neg (fun z => hj z.symm), if_neg hj, if_neg (by rw [hp]; exact fun z => hj z.symm)]
          by_cases hr : (r.any fun p => decide (p.1 = k)) = true
          · rw [ih hr, if_neg hj]
          · have : r.map (fun p => if p.1 = k then (p.1, v) else p) = r := by
              refine List.map_congr_left (g := id) (fun q hq => ?_) |>.trans (List.map_id r)
              have : ¬ q.1 = k := fun z => hr (List.any_eq_true.mpr ⟨q, hq, decide_eq_true z⟩)
              simp [this]
            rw [this]
      · have hr : (r.any fun p => decide (p.1 = k)) = true := by simpa [hp] using h
        simp only [hp, if_false]
        rw [aget_cons, ih hr]
        by_cases hj : j = k
        · subst hj; rw [if_neg hp, if_pos rfl, if_pos rfl]
        · rw [if_neg hj, if_neg hj]
  · rw [if_neg h]
    induction m with
    | nil => simp [aget_cons, aget_nil, eq_comm]
    | cons p r ih =>
      rw [List.cons_append, aget_cons, aget_cons]
      have hp : ¬ p.1 = k := fun z => h (by simp [z])
      have hr : ¬ (r.any fun p => decide (p.1 = k)) = true := fun z => h (by simp [z])
      rw [ih hr]
      by_cases hj : j = k
      · subst hj; rw [if_neg hp, if_pos rfl, if_pos rfl]
      · rw [if_neg hj, if_neg hj]
theorem aput_nodup {m : List (α × β)} {k : α} {v : β} (h : (m.map (·.1)).Nodup) : ((aput m k v).map (·.1)).Nodup := by
  rw [aput_keys]
  split
  · exact h
  · next n => rw [List.nodup_append]; exact ⟨h, by simp, fun a ha b hb e => n (by rw [List.mem_singleton.mp hb] at e; rw [← e]; exact ha)⟩
theorem aget_isSome {m : List (α × β)} {k : α} : (aget m k).isSome = true ↔ k ∈ m.map (·.1) := by
  induction m with
  | nil => simp [aget_nil]
  | cons p r ih =>
    rw [aget_cons]
    by_cases h : p.1 = k
    · simp [h]
    · rw [if_neg h, ih]
      simp only [List.map_cons, List.mem_cons]
      exact ⟨.inr, fun z => z.resolve_left fun e => h e.symm⟩
theorem aget_mem {m : List (α × β)} {k : α} {v : β} (h : aget m k = some v) : (k, v) ∈ m := by
  induction m with
  | nil => cases h
  | cons p r ih =>
    rw [aget_cons] at h
    split at h
    · next e => cases h; rw [← e]; exact List.mem_cons_self ..
    · exact List.mem_cons_of_mem _ (ih h)
theorem mem_aput {m : List (α × β)} {k : α} {v : β} {p : α × β} (h : p ∈ aput m k v) : p = (k, v) ∨ p ∈ m := by
  unfold aput at h
  split at h
  · obtain ⟨q, hq, rfl⟩ := List.mem_map.mp h
    split
    · next e => exact .inl (by rw [e])
    · exact .inr hq
  · rcases List.mem_append.mp h with h | h
    · exact .inr h
    · exact .inl (List.mem_singleton.mp h)
end
/-! ### sorted names -/
theorem sort_uni {α : Type} {r : α → α → Prop} : ∀ {l k : List α}, (∀ a ∈ l, ∀ b ∈ l, r a b → r b a → a = b) → l.Pairwise r → k.Pairwise r → l.Perm k → l = k
  | [], k, _, _, _, h => (List.nil_perm.mp h).symm ▸ rfl
  | a :: l, [], _, _, _, h => by have := h.length_eq; simp at this
  | a :: l, b :: k, an, h1, h2, h => by
    rw [List.pairwise_cons] at h1 h2
    have e : a = b := by
      have hb : b ∈ a :: l := h.symm.subset (List.mem_cons_self ..)
      have ha : a ∈ b :: k := h.subset (List.mem_cons_self ..)
      rcases List.mem_cons.mp hb with z | hb'
      · exact z.symm
      · rcases List.mem_cons.mp ha with z | ha
        · exact z
        · exact an a (List.mem_cons_self ..) b hb (h1.1 b hb') (h2.1 a ha)
    subst e
    rw [sort_uni (fun x hx y hy => an x (List.mem_cons_of_mem _ hx) y (List.mem_cons_of_mem _ hy)) h1.2 h2.2 ((List.perm_cons _).mp h)]
/-- the place of a name -/
def nmIx (x : Str) : Nat := x.cps.toList.getD 0 0
def nmLe (x y : Str) : Bool := decide (nmIx x ≤ nmIx y)
theorem lt1 (a b : Nat) : ltCps [a] [b] = decide (a < b) := by simp [ltCps]
theorem nmIx_of {x : Str} (h : Nm8 x) : x = ⟨#[nmIx x]⟩ ∧ x.cps.toList = [nmIx x] := by
  obtain ⟨i, _, rfl⟩ := h
  exact ⟨rfl, rfl⟩
theorem rising_pw : ∀ (r : List Str) (p : Str), Nm8 p → (∀ x ∈ r, Nm8 x) → risingS p r = true → (p :: r).Pairwise fun a b => nmIx a ≤ nmIx b
  | [], p, _, _, _ => by simp
  | x :: r, p, hp, hr, h => by
    have hx := hr x (List.mem_cons_self ..)
    simp only [risingS, Bool.and_eq_true, Bool.not_eq_true'] at h
    have h1 := h.1
    rw [(nmIx_of hx).2, (nmIx_of hp).2, lt1, decide_eq_false_iff_not] at h1
    have ih := rising_pw r x hx (fun y hy => hr y (List.mem_cons_of_mem _ hy)) h.2
    rw [List.pairwise_cons]
    refine ⟨fun y hy => ?_, ih⟩
    rcases List.mem_cons.mp hy with rfl | hy
    · omega
    · have := (List.pairwise_cons.mp ih).1 y hy
      omega
def srt (l : List Str) : List Str := l.mergeSort nmLe
theorem srt_perm (l : List Str) : (srt l).Perm l := List.mergeSort_perm l nmLe
theorem srt_uni {l k : List Str} (hl : ∀ x ∈ l, Nm8 x) (h : k.Perm l) (hs : sortedS k = true) : k = srt l := by
  have hk : ∀ x ∈ k, Nm8 x := fun x hx => hl x (h.subset hx)
  have h1 : k.Pairwise fun a b => nmIx a ≤ nmIx b := by
    cases k with
    | nil => simp
    | cons a r => exact rising_pw r a (hk a (List.mem_cons_self ..)) (fun x hx => hk x (List.mem_cons_of_mem _ hx)) hs
  have h2 : (srt l).Pairwise fun a b => nmIx a ≤ nmIx b := by
    have := List.pairwise_mergeSort (le := nmLe) (fun a b c => by simp only [nmLe, decide_eq_true_eq]; omega) (fun a b => by simp only [nmLe, Bool.or_eq_true, decide_eq_true_eq]; omega) l
    exact this.imp fun h => by simpa [nmLe] using h
  refine sort_uni (fun a ha b hb x y => ?_) h1 h2 (h.trans (srt_perm l).symm)
  have e : nmIx a = nmIx b := by omega
  rw [(nmIx_of (hk a ha)).1, (nmIx_of (hk b hb)).1, e]
/-! ### rows -/
inductive Kd where
  | n | t
  deriving DecidableEq
def Kd.s : Kd → Str
  | .n => wd 23
  | .t => wd 24
def Vl.kind : Vl → Kd
  | .n _ => .n
  | .t _ => .t
theorem Vl.kd_kind (x : Vl) : x.kd = x.kind.s := by cases x <;> rfl
structure Qx where
  place : Nat
  names : List (Str × Nat)
  half : List Nat
inductive Qr where
  | turn | num (s : Nat) (n : Int) | text (s : Nat) (z : Str) | get (s : Nat) (x : Str) | is (s : Nat) (k : Kd) (o : Qx) | so (s : Nat) (yes : Bool) (o : Qx)
  | op (g : Sg) (k : Option Kd) (s a b : Nat) | say (s : Nat) | put (x : Str) (s : Nat) | again | leave (o : Qx)
def Qx.d (o : Qx) : PyData := .tuple [.int (o.place : Nat), .tuple (o.names.map fun p => .tuple [.str p.1, .int (p.2 : Nat)]), .tuple (o.half.map fun s => .int (s : Nat))]
def kdS : Option Kd → Str
  | none => wd 25
  | some k => k.s
def Qr.d : Qr → PyData
  | .turn => .tuple [.str (wd 16)]
  | .num s n => .tuple [.str (wd 0), .int (s : Nat), .int n]
  | .text s z => .tuple [.str (wd 1), .int (s : Nat), .str z]
  | .get s x => .tuple [.str (wd 17), .int (s : Nat), .str x]
  | .is s k o => .tuple [.str (wd 18), .int (s : Nat), .str k.s, o.d]
  | .so s y o => .tuple [.str (wd 19), .int (s : Nat), .int (b2n y), o.d]
  | .op g k s a b => .tuple [.str g.s, .str (kdS k), .int (s : Nat), .int (a : Nat), .int (b : Nat)]
  | .say s => .tuple [.str (wd 7), .int (s : Nat)]
  | .put x s => .tuple [.str (wd 20), .str x, .int (s : Nat)]
  | .again => .tuple [.str (wd 21)]
  | .leave o => .tuple [.str (wd 22), o.d]
structure Mk where
  rows : List Qr
  many : Nat
  whr : List (Str × Nat)
  chg : List (Str × Bool)
  hf : List Nat
  known : List (Nat × Kd)
def Mk.exit (m : Mk) (p : Nat) : Qx := ⟨p, (srt (m.chg.map (·.1))).map fun x => (x, (aget m.whr x).getD 0), m.hf.reverse⟩
def Mk.new (m : Mk) : Option Kd → Mk
  | none => { m with many := m.many + 1 }
  | some k => { m with many := m.many + 1, known := aput m.known m.many k }
def Mk.guess (m : Mk) (told : Option (Kd × Kd)) (a b : Nat) : Option Kd :=
  match (aget m.known a).or (told.map (·.1)), (aget m.known b).or (told.map (·.2)) with
  | some x, some y => if x = y then some x else none
  | _, _ => none
def Mk.guard (m : Mk) (a : Nat) (k : Kd) (p : Nat) : Mk := match aget m.known a with
  | some _ => m
  | none => { m with rows := m.rows ++ [.is a k (m.exit p)], known := aput m.known a k }
def madeK (g : Sg) : Option Kd → Kd
  | some .t => if g = .less then .n else .t
  | _ => .n
/-- a sign's row, both slots in the stead of which it comes taken off -/
def Mk.push (m : Mk) (g : Sg) (k : Option Kd) (a b : Nat) (r : List Nat) : Mk :=
  { m with rows := m.rows ++ [.op g k m.many a b], many := m.many + 1, known := aput m.known m.many (madeK g k), hf := m.many :: r }
def Mk.row (m : Mk) (told : Option (Kd × Kd)) (p : Nat) : Rw → Option Mk
  | .num n => some { m with rows := m.rows ++ [.num m.many n], many := m.many + 1, known := aput m.known m.many .n, hf := m.many :: m.hf }
  | .text z => some { m with rows := m.rows ++ [.text m.many z], many := m.many + 1, known := aput m.known m.many .t, hf := m.many :: m.hf }
  | .name x => (match aget m.whr x with
    | some s => some { m with hf := s :: m.hf }
    | none => some { m with rows := m.rows ++ [.get m.many x], many := m.many + 1, whr := aput m.whr x m.many, hf := m.many :: m.hf })
  | .set x => (match m.hf with
    | s :: r => some { m with hf := r, whr := aput m.whr x s, chg := aput m.chg x true }
    | [] => none)
  | .say => (match m.hf with
    | s :: r => some { m with hf := r, rows := m.rows ++ [.say s] }
    | [] => none)
  | .op g => (match m.hf with
    | b :: a :: r => if g = .same then some (m.push g none a b r) else (match m.guess told a b with
      | some k => some (((m.guard a k p).guard b k p).push g (some k) a b r)
      | none => none)
    | _ => none)
  | _ => none
def endsIt : Rw → Bool
  | .top => true
  | .fin => true
  | _ => false
/-- one row more, and where it goes on; none: it leaves -/
def fol (code : List Rw) (gk : Nat → Option (Kd × Kd)) (gw : Nat → Option Bool) (most : Nat) (m : Mk) (p : Nat) : Option (Mk × Nat) :=
  match code[p]? with
  | none => none
  | some r => if most ≤ m.rows.length ∨ endsIt r = true then none else (match r with
    | .go z => some (m, z)
    | .unless q => (match gw p, m.hf with
      | some w, s :: h => some ({ m with hf := h, rows := m.rows ++ [.so s w ({ m with hf := h }.exit (if w then q else p + 1))] }, if w then p + 1 else q)
      | _, _ => none)
    | r => (m.row (gk p) p r).map fun m' => (m', p + 1))
def Mk.puts (m : Mk) : List Qr := (srt (m.chg.map (·.1))).map fun x => .put x ((aget m.whr x).getD 0)
inductive Fol (code : List Rw) (gk : Nat → Option (Kd × Kd)) (gw : Nat → Option Bool) (most top : Nat) : Mk → Nat → List Qr → Prop
  | close (m : Mk) : Fol code gk gw most top m top (m.rows ++ m.puts ++ [.again])
  | leave {m : Mk} {p : Nat} : p ≠ top → fol code gk gw most m p = none → Fol code gk gw most top m p (m.rows ++ [.leave (m.exit p)])
  | next {m m' : Mk} {p p' : Nat} {rows : List Qr} : p ≠ top → fol code gk gw most m p = some (m', p') → Fol code gk gw most top m' p' rows → Fol code gk gw most top m p rows
theorem Fol.uni {code : List Rw} {gk : Nat → Option (Kd × Kd)} {gw : Nat → Option Bool} {most top : Nat} {m : Mk} {p : Nat} {r1 r2 : List Qr} (a : Fol code gk gw most top m p r1) (b : Fol code gk gw most top m p r2) : r1 = r2 := by
  induction a with
  | close m =>
    cases b with
    | close => rfl
    | leave h _ => exact absurd rfl h
    | next h _ _ => exact absurd rfl h
  | leave h e =>
    cases b with
    | close => exact absurd rfl h
    | leave _ _ => rfl
    | next _ e' _ => rw [e] at e'; cases e'
  | next h e _ ih =>
    cases b with
    | close => exact absurd rfl h
    | leave _ e' => rw [e] at e'; cases e'
    | next _ e' b => rw [e] at e'; cases e'; exact ih b
def Mk0 : Mk := ⟨[.turn], 0, [], [], [], []⟩
def Quick (code : List Rw) (gk : Nat → Option (Kd × Kd)) (gw : Nat → Option Bool) (most top : Nat) (rows : List Qr) : Prop := Fol code gk gw most top Mk0 (top + 1) rows

/-- _law_name -/
def t_L_name (K : PySem.W.Frag) : TS :=
  (tSeq (tAsg (tOp (rI CMul fun i j => .int (i * j)) (tC (.int 4)) (tCB rInt1 (tCons (tOp rEq (tCall sp_L_take [] E0 (tCons (tVar 0) (tCons (tC (.int 6)) tNil))) (tC (.int 1))) tNil))) (gName 1))
    (tRet (tOp rIxS (tC (.str ("abcdefgh" : Str))) (tOp (rI0 fun i j => .int (i + j)) (tCall sp_L_take [] E0 (tCons (tVar 0) (tCons (tC (.int 4)) tNil))) (tVar 1)))))

/-- _law_part from 4 -/
def t_L_part_4 (K : PySem.W.Frag) (n : Nat) : TS :=
  (tSeq (tAsg (tCall (sp_L_part n) [] E0 (tCons (tVar 0) (tCons (tOp (rI0 fun i j => .int (i - j)) (tVar 1) (tC (.int 1))) tNil))) (gName 4))
    (tRet (xTup (tCons (tVar 3) (tCons (tVar 4) (tCons (tCall (sp_L_part n) [] E0 (tCons (tVar 0) (tCons (tOp (rI0 fun i j => .int (i - j)) (tVar 1) (tC (.int 1))) tNil))) tNil))))))

/-- _law_part from 3 -/
def t_L_part_3 (K : PySem.W.Frag) (n : Nat) : TS :=
  tSeq (tAsg (tOp rXL (xLst (tCons (tC (.str (wd 3))) (tCons (tC (.str (wd 4))) (tCons (tC (.str (wd 5))) (tCons (tC (.str (wd 6))) tNil))))) (tCall sp_L_take [] E0 (tCons (tVar 0) (tCons (tC (.int 4)) tNil)))) (gName 3)) (t_L_part_4 K n)

/-- _law_part from 2 -/
def t_L_part_2 (K : PySem.W.Frag) (n : Nat) : TS :=
  tSeq (tIfS (tOr (tTest (tOp rEq (tVar 1) (tC (.int 0)))) (tTest (tOp (rI0 fun i j => .bl (decide (i < j))) (tVar 2) (tC (.int 6))))) (tSeq (tIfS (tTest (tOp rEq (tVar 2) (tC (.int 5)))) (tRet (xTup (tCons (tC (.str (wd 1))) (tCons (tCall sp_L_text [] E0 (tCons (tVar 0) tNil)) tNil)))) tNext)
    (tRet (xTup (tCons (tC (.str (wd 0))) (tCons (tOp rXL (xLst (tCons (tCall sp_L_take [] E0 (tCons (tVar 0) (tCons (tC (.int 4)) tNil))) (tCons (tCall sp_L_take [] E0 (tCons (tVar 0) (tCons (tC (.int 10000)) tNil))) tNil))) (tCB rInt1 (tCons (tOp rEq (tVar 2) (tC (.int 4))) tNil))) tNil))))) tNext) (t_L_part_3 K n)

/-- _law_part from 1 -/
def t_L_part_1 (K : PySem.W.Frag) (n : Nat) : TS :=
  tSeq (tIfS (tTest (tOp (rI0 fun i j => .bl (decide (i < j))) (tVar 2) (tC (.int 4)))) (tRet (xTup (tCons (tC (.str (wd 2))) (tCons (tCall sp_L_name [] E0 (tCons (tVar 0) tNil)) tNil)))) tNext) (t_L_part_2 K n)

/-- _law_part -/
def t_L_part (K : PySem.W.Frag) (n : Nat) : TS :=
  tSeq (tAsg (tCall sp_L_take [] E0 (tCons (tVar 0) (tCons (tC (.int 9)) tNil))) (gName 2)) (t_L_part_1 K n)

/-- _law_row from 1 -/
def t_L_row_1 (K : PySem.W.Frag) (n : Nat) : TS :=
  (tRet (xTup (tCons (tC (.str (wd 13))) (tCons (tCB rTupL (tCons (tLc (iRng1 (tCons (tVar 2) tNil)) (gName 3) tYes (tCall (sp_L_statement n) [] E0 (tCons (tVar 0) (tCons (tVar 1) tNil))) [3]) tNil)) tNil))))

/-- _law_row -/
def t_L_row (K : PySem.W.Frag) (n : Nat) : TS :=
  tSeq (tIfS (tAnd (tTest (tOp (rI0 fun i j => .bl (decide (i < j))) (tVar 1) (tC (.int 2)))) (tTest (tOp rEq (tCall sp_L_take [] E0 (tCons (tVar 0) (tCons (tC (.int 8)) tNil))) (tC (.int 1))))) (tAsg (tCall sp_L_take [] E0 (tCons (tVar 0) (tCons (tC (.int 9)) tNil))) (gName 2)) tNext) (t_L_row_1 K n)

/-- _law_statement from 5 -/
def t_L_statement_5 (K : PySem.W.Frag) (n : Nat) : TS :=
  (tSeq (tIfS (tTest (tOp (rI0 fun i j => .bl (decide (i < j))) (tVar 2) (tC (.int 7)))) (tRet (xTup (tCons (tC (.str (wd 14))) (tCons (tVar 4) (tCons (tVar 5) (tCons (tCall (sp_L_row n) [] E0 (tCons (tVar 0) (tCons (tOp (rI0 fun i j => .int (i - j)) (tVar 1) (tC (.int 1))) (tCons (tCall sp_L_take [] E0 (tCons (tVar 0) (tCons (tC (.int 3)) tNil))) tNil)))) tNil)))))) tNext)
    (tRet (xTup (tCons (tC (.str (wd 15))) (tCons (tVar 4) (tCons (tVar 5) tNil))))))

/-- _law_statement from 4 -/
def t_L_statement_4 (K : PySem.W.Frag) (n : Nat) : TS :=
  tSeq (tAsg (tCall (sp_L_row n) [] E0 (tCons (tVar 0) (tCons (tOp (rI0 fun i j => .int (i - j)) (tVar 1) (tC (.int 1))) (tCons (tCall sp_L_take [] E0 (tCons (tVar 0) (tCons (tC (.int 4)) tNil))) tNil)))) (gName 5)) (t_L_statement_5 K n)

/-- _law_statement from 3 -/
def t_L_statement_3 (K : PySem.W.Frag) (n : Nat) : TS :=
  tSeq (tAsg (tCall (sp_L_part 6) [] E0 (tCons (tVar 0) (tCons (tC (.int 2)) tNil))) (gName 4)) (t_L_statement_4 K n)

/-- _law_statement from 2 -/
def t_L_statement_2 (K : PySem.W.Frag) (n : Nat) : TS :=
  tSeq (tIfS (tOr (tTest (tOp rEq (tVar 1) (tC (.int 0)))) (tTest (tOp (rI0 fun i j => .bl (decide (i < j))) (tVar 2) (tC (.int 5))))) (tSeq (tIfS (tTest (tOp (rInT false) (tVar 2) (xTup (tCons (tC (.int 0)) (tCons (tC (.int 1)) (tCons (tC (.int 9)) tNil)))))) (tRet (xTup (tCons (tC (.str (wd 7))) (tCons (tCall (sp_L_part 6) [] E0 (tCons (tVar 0) (tCons (tVar 3) tNil))) tNil)))) tNext)
    (tRet (xTup (tCons (tC (.str (wd 8))) (tCons (tCall sp_L_name [] E0 (tCons (tVar 0) tNil)) (tCons (tCall (sp_L_part 6) [] E0 (tCons (tVar 0) (tCons (tVar 3) tNil))) tNil)))))) tNext) (t_L_statement_3 K n)

/-- _law_statement from 1 -/
def t_L_statement_1 (K : PySem.W.Frag) (n : Nat) : TS :=
  tSeq (tAsg (tOp rXL (xLst (tCons (tC (.int 2)) (tCons (tC (.int 4)) tNil))) (tCB rInt1 (tCons (tOp rEq (tCall sp_L_take [] E0 (tCons (tVar 0) (tCons (tC (.int 8)) tNil))) (tC (.int 1))) tNil))) (gName 3)) (t_L_statement_2 K n)

/-- _law_statement -/
def t_L_statement (K : PySem.W.Frag) (n : Nat) : TS :=
  tSeq (tAsg (tCall sp_L_take [] E0 (tCons (tVar 0) (tCons (tC (.int 10)) tNil))) (gName 2)) (t_L_statement_1 K n)

/-- _law_counted from 1 -/
def t_L_counted_1 (K : PySem.W.Frag) : TS :=
  (tSeq (tAsg (xTup (tCons (tC (.str (wd 15))) (tCons (xTup (tCons (tC (.str (wd 2))) (tCons (tC (.str ("d" : Str))) tNil))) (tCons (xTup (tCons (tC (.str (wd 13))) (tCons (tOp rCatX (tOp rXT (tVar 0) (tC (.int 1))) (xTup (tCons (tVar 2) tNil))) tNil))) tNil)))) (gName 3))
    (tRet (xTup (tCons (tC (.str (wd 13))) (tCons (xTup (tCons (xTup (tCons (tC (.str (wd 8))) (tCons (tC (.str ("d" : Str))) (tCons (xTup (tCons (tC (.str (wd 0))) (tCons (tVar 1) tNil))) tNil)))) (tCons (tVar 3) tNil))) tNil)))))

/-- _law_counted -/
def t_L_counted (K : PySem.W.Frag) : TS :=
  tSeq (tAsg (xTup (tCons (tC (.str (wd 8))) (tCons (tC (.str ("d" : Str))) (tCons (xTup (tCons (tC (.str (wd 4))) (tCons (xTup (tCons (tC (.str (wd 2))) (tCons (tC (.str ("d" : Str))) tNil))) (tCons (xTup (tCons (tC (.str (wd 0))) (tCons (tC (.int 1)) tNil))) tNil)))) tNil)))) (gName 2)) (t_L_counted_1 K)

/-- _law_program from 4 -/
def t_L_program_4 (K : PySem.W.Frag) : TS :=
  (tRet (tVar 3))

/-- _law_program from 3 -/
def t_L_program_3 (K : PySem.W.Frag) : TS :=
  tSeq (tIfS (tTest (tOp rEq (tCall sp_L_take [] E0 (tCons (tVar 0) (tCons (tC (.int 2)) tNil))) (tC (.int 1)))) (tAsg (tCall sp_L_counted [] E0 (tCons (tVar 3) (tCons (tOp (rI0 fun i j => .int (i + j)) (tC (.int 1)) (tCall sp_L_take [] E0 (tCons (tVar 0) (tCons (tC (.int 20)) tNil)))) tNil))) (gName 3)) tNext) (t_L_program_4 K)

/-- _law_program from 2 -/
def t_L_program_2 (K : PySem.W.Frag) : TS :=
  tSeq (tAsg (tCall (sp_L_row 8) [] E0 (tCons (tVar 0) (tCons (tVar 1) (tCons (tVar 2) tNil)))) (gName 3)) (t_L_program_3 K)

/-- _law_program from 1 -/
def t_L_program_1 (K : PySem.W.Frag) : TS :=
  tSeq (tIfS (tTest (tOp rEq (tCall sp_L_take [] E0 (tCons (tVar 0) (tCons (tC (.int 8)) tNil))) (tC (.int 1)))) (tAsg (tOp (rI0 fun i j => .int (i + j)) (tC (.int 1)) (tCall sp_L_take [] E0 (tCons (tVar 0) (tCons (tC (.int 8)) tNil)))) (gName 2)) tNext) (t_L_program_2 K)

/-- _law_program -/
def t_L_program (K : PySem.W.Frag) : TS :=
  tSeq (tAsg (tOp (rI0 fun i j => .int (i + j)) (tC (.int 1)) (tCall sp_L_take [] E0 (tCons (tVar 0) (tCons (tC (.int 3)) tNil)))) (gName 2)) (t_L_program_1 K)

theorem abc8 : ("abcdefgh" : Str).cps.toList = [97, 98, 99, 100, 101, 102, 103, 104] := by decide +kernel
theorem abc8_len : ("abcdefgh" : Str).length ≤ sizeLine := by decide +kernel
theorem abc8_at {i : Int} (h0 : 0 ≤ i) (h1 : i < 8) : ∃ c : Nat, atI ("abcdefgh" : Str).cps.toList i = some c ∧ Nm8 ⟨#[c]⟩ := by
  rw [abc8]
  have hi : i = 0 ∨ i = 1 ∨ i = 2 ∨ i = 3 ∨ i = 4 ∨ i = 5 ∨ i = 6 ∨ i = 7 := by omega
  rcases hi with hi | hi | hi | hi | hi | hi | hi | hi <;> subst hi
  · exact ⟨97, rfl, 0, by decide, rfl⟩
  · exact ⟨98, rfl, 1, by decide, rfl⟩
  · exact ⟨99, rfl, 2, by decide, rfl⟩
  · exact ⟨100, rfl, 3, by decide, rfl⟩
  · exact ⟨101, rfl, 4, by decide, rfl⟩
  · exact ⟨102, rfl, 5, by decide, rfl⟩
  · exact ⟨103, rfl, 6, by decide, rfl⟩
  · exact ⟨104, rfl, 7, by decide, rfl⟩
theorem nm_d : Nm8 ("d" : Str) := ⟨3, by decide, by decide +kernel⟩
theorem rd_L_name {K : PySem.W.Frag} {vs : List V} {H : Hp} {Q : VK} {E : XK} (h : sp_L_name vs H Q E) : t_L_name K { nx := fun _ H' => Q .non H', rt := Q } (start ["_", "_"] vs) H := by
  obtain ⟨b, l, rfl, B, k⟩ := h
  show t_L_name K _ [some (.ref b), none] H
  unfold t_L_name; refine st_seq ?_
  push_cast
  refine ⟨b, l, 6, rfl, B, by decide, by decide, fun r H1 r0 r1 B1 f1 => ?_⟩
  push_cast
  refine ⟨.inl ⟨by decide, by decide⟩, b, l, 4, rfl, B1, by decide, by decide, fun s H2 s0 s1 B2 f2 => ?_⟩
  push_cast
  obtain ⟨c, hc, nc⟩ := abc8_at (i := s + 4 * if r = 1 then 1 else 0) (by split <;> omega) (by split <;> omega)
  exact ⟨abc8_len, c, hc, k _ _ nc B2 (f1.trans f2)⟩
theorem rd_L_part {K : PySem.W.Frag} {n : Nat} {vs : List V} {H : Hp} {Q : VK} {E : XK} (h : sp_L_part (n + 1) vs H Q E) : t_L_part K n { nx := fun _ H' => Q .non H', rt := Q } (start ["_", "_", "_", "_", "_"] vs) H := by
  obtain ⟨b, l, k, rfl, B, hk, kk⟩ := h
  show t_L_part K n _ [some (.ref b), some (.int k), none, none, none] H
  unfold t_L_part; refine st_seq ?_
  push_cast
  refine ⟨b, l, 9, rfl, B, by decide, by decide, fun r H1 r0 r1 B1 f1 => ?_⟩
  unfold t_L_part_1; refine st_seq ?_
  push_cast
  split
  · refine ⟨b, l, rfl, B1, fun x H2 nx B2 f2 => ⟨(by simp only [List.length_cons, List.length_nil]; decide), fun p H3 A => ?_⟩⟩
    exact kk (.name x) _ _ nx (by simp only [Ex.dep]; omega) (.tup A.at_ (.cons (.str _) (.cons (.str _) .nil))) (B2.keep A.fr) ((f1.trans f2).al A)
  · unfold t_L_part_2; refine st_seq ?_
    push_cast
    refine or2 (fun h6 => ?_) (fun h0 h6 => ?_)
    refine st_seq ?_
    push_cast
    refine i2 (fun h5 => ?_) fun h5 => ?_
    · refine ⟨b, l, rfl, B1, fun z H2 hz B2 f2 => ⟨(by simp only [List.length_cons, List.length_nil]; decide), fun p H3 A => ?_⟩⟩
      exact kk (.text z) _ _ hz (by simp only [Ex.dep]; omega) (.tup A.at_ (.cons (.str _) (.cons (.str _) .nil))) (B2.keep A.fr) ((f1.trans f2).al A)
    · refine ⟨b, l, 4, rfl, B1, by decide, by decide, fun x H2 x0 x1 B2 f2 => ?_⟩
      refine ⟨b, l, 10000, rfl, B2, by decide, by decide, fun y H3 y0 y1 B3 f3 => ?_⟩
      push_cast
      refine ⟨(by simp only [List.length_cons, List.length_nil]; decide), fun p H4 A => ?_⟩
      push_cast [A.at_]
      have hl : ∃ m, atI [V.int x, V.int y] (if r = 4 then 1 else 0) = some (.int m) ∧ 0 ≤ m ∧ m < 10000 := by
        split
        · exact ⟨_, atI1 _ _ _, y0, y1⟩
        · exact ⟨_, atI0 _ _, x0, by omega⟩
      obtain ⟨m, em, m0, m1⟩ := hl
      push_cast [em]
      refine ⟨(by simp only [List.length_cons, List.length_nil]; decide), fun q H5 A5 => ?_⟩
      exact kk (.num m) _ _ ⟨m0, m1⟩ (by simp only [Ex.dep]; omega) (.tup A5.at_ (.cons (.str _) (.cons (.int _) .nil))) ((B3.keep A.fr).keep A5.fr) ((((f1.trans f2).trans f3).al A).al A5)
    · unfold t_L_part_3; refine st_seq ?_
      push_cast
      refine ⟨(by simp only [List.length_cons, List.length_nil]; decide), fun p H2 A => ?_⟩
      refine ⟨b, l, 4, rfl, B1.keep A.fr, by decide, by decide, fun z H3 z0 z1 B3 f3 => ?_⟩
      have hp : H3 p = _ := f3.keep _ _ A.at_ (B1.off A.new)
      obtain ⟨s, es⟩ := sg4 z0 z1
      push_cast [hp, es]
      unfold t_L_part_4; refine st_seq ?_
      push_cast
      have ek : ((k - 1 : Nat) : Int) = (k : Int) - 1 := by omega
      refine ⟨b, l, k - 1, by rw [ek], B3, by omega, fun e1 v1 H4 ok1 d1 t1 B4 f4 => ?_⟩
      push_cast
      refine ⟨b, l, k - 1, by rw [ek], B4, by omega, fun e2 v2 H5 ok2 d2 t2 B5 f5 => ?_⟩
      refine ⟨(by simp only [List.length_cons, List.length_nil]; decide), fun q H6 A6 => ?_⟩
      exact kk (.op s e1 e2) _ _ ⟨ok1, ok2⟩ (by simp only [Ex.dep]; omega) (.tup A6.at_ (.cons (.str _) (.cons ((t1.tups f5.tu).tups A6.tu) (.cons (t2.tups A6.tu) .nil)))) (B5.keep A6.fr) (((((f1.al A).trans f3).trans f4).trans f5).al A6)
theorem cntL_snoc (l : List Sm) (s : Sm) : cntL (l ++ [s]) = cntL l + s.cnt := by rw [cntL_append]; simp [cntL]
theorem dpL_snoc : ∀ (l : List Sm) (s : Sm), dpL (l ++ [s]) = max (dpL l) (1 + s.dp)
  | [], s => by have := s.dp_pos; simp only [List.nil_append, dpL]; omega
  | a :: r, s => by rw [List.cons_append]; simp only [dpL, dpL_snoc r s]; omega
theorem okL_snoc {m : Nat} {l : List Sm} {s : Sm} (h : okL m l) (h' : s.ok m) : okL m (l ++ [s]) := okL_append h ⟨h', trivial⟩
theorem rowC_mono {f k m m' : Nat} (h : m ≤ m') : rowC f k m ≤ rowC f k m' := by
  unfold rowC
  split
  · exact Nat.le_refl _
  · exact Nat.mul_le_mul_right _ h
/-- the row's statements, one by one -/
theorem row_lc {K : PySem.W.Frag} {n : Nat} {b l : Addr} {k m m0 : Nat} {H : Hp} {Q : VK} {σ3 : Option V} (B : BoxAt H b l) (hk : 2 * k + 1 < n + 1) (hm : m ≤ 8) (hm0 : m * stC k ≤ rowC (stC k) k m0)
    (kk : ∀ (p : List Sm) v H', okL 5 p → dpL p ≤ 2 * k + 2 → cntL p ≤ rowC (stC k) k m0 → Tp H' (rowD p) v → BoxAt H' b l → Fr [b, l] H H' → Q v H') :
    t_L_row_1 K n { nx := fun _ H' => Q .non H', rt := Q } [some (.ref b), some (.int k), some (.int m), σ3] H := by
  unfold t_L_row_1
  push_cast
  refine lcR (n := (m : Int)) (fun R h => ⟨_, rfl, h⟩) (by omega) (by omega) fun L hL => ?_
  refine ⟨fun i Hc => ∃ (ss : List Sm) (xs : List V), ss.length = i ∧ Hc L = some (.lst xs) ∧ TpL Hc (ss.map Sm.d) xs ∧ okL 5 ss ∧ dpL ss ≤ 2 * k + 2 ∧ cntL ss ≤ i * stC k ∧ BoxAt Hc b l ∧ Fr [b, l] H Hc, ?_, ?_, ?_⟩
  · exact ⟨[], [], rfl, upd_same, .nil, trivial, by simp only [dpL]; omega, by simp [cntL], B.keep (Al.of hL).fr, (Al.of hL).fr⟩
  · rintro i Hc hi ⟨ss, xs, e1, h1, h2, h3, h4, h5, B1, f1⟩
    show LcTurn _ _ _ _ _ _ _ _ _
    unfold LcTurn
    push_cast [wipe, tYes]
    refine ⟨b, l, k, rfl, B1, by omega, fun s v H2 hs ds cs ts B2 f2 => ?_⟩
    have oL := B.off hL
    have hL2 : H2 L = _ := f2.keep _ _ h1 oL
    have M := Mu.of (o := .lst (xs ++ [v])) hL2 fun _ z => by cases z
    refine ⟨xs, hL2, ?_, ss ++ [s], by simp [e1], ?_, okL_snoc h3 hs, by rw [dpL_snoc]; omega, ?_, B2.mu M oL, (f1.trans f2).muN M hL⟩
    · rw [h2.length, List.length_map, e1]; exact Nat.lt_of_lt_of_le (m := 9) (by omega) (by decide)
    · rw [List.map_append]; exact (((h2.tups f2.tu).snoc ts).tups M.tu)
    · rw [cntL_snoc, Nat.succ_mul]; omega
  · rintro Hc ⟨ss, xs, e1, h1, h2, h3, h4, h5, B1, f1⟩
    push_cast [h1]
    intro p H2 A2
    refine ⟨(by simp only [List.length_cons, List.length_nil]; decide), fun q H3 A3 => ?_⟩
    refine kk ss _ _ h3 h4 (Nat.le_trans h5 (by simpa using hm0)) ?_ ((B1.keep A2.fr).keep A3.fr) ((f1.al A2).al A3)
    refine .tup A3.at_ (.cons (.str _) (.cons (.tup (A3.k A2.at_) ?_) .nil))
    rw [dL_map]
    exact (h2.tups A2.tu).tups A3.tu
theorem rd_L_row {K : PySem.W.Frag} {n : Nat} {vs : List V} {H : Hp} {Q : VK} {E : XK} (h : sp_L_row (n + 1) vs H Q E) : t_L_row K n { nx := fun _ H' => Q .non H', rt := Q } (start ["_", "_", "_", "_"] vs) H := by
  obtain ⟨b, l, k, m, rfl, B, hk, hm, kk⟩ := h
  show t_L_row K n _ [some (.ref b), some (.int k), some (.int m), none] H
  unfold t_L_row; refine st_seq ?_
  push_cast
  refine i2 (fun h2 => ?_) fun h2 => ?_
  · refine ⟨b, l, 8, rfl, B, by decide, by decide, fun r H1 r0 r1 B1 f1 => ?_⟩
    push_cast
    have h8 : ∀ m' : Nat, m' ≤ 8 → m' * stC k ≤ rowC (stC k) k m := fun m' h => by
      unfold rowC
      rw [if_pos (by omega)]
      exact Nat.mul_le_mul_right _ h
    refine i2 (fun h1 => ?_) fun h1 => ?_
    · refine ⟨b, l, 9, rfl, B1, by decide, by decide, fun s H2 s0 s1 B2 f2 => ?_⟩
      obtain ⟨m', rfl⟩ : ∃ m' : Nat, s = m' := ⟨s.toNat, by omega⟩
      exact row_lc B2 hk (by omega) (h8 m' (by omega)) fun p v H' o d ct t B' f' => kk p v H' o d ct t B' ((f1.trans f2).trans f')
    · exact row_lc B1 hk hm (h8 m hm) fun p v H' o d ct t B' f' => kk p v H' o d ct t B' (f1.trans f')
  · refine row_lc B hk hm ?_ kk
    unfold rowC
    rw [if_neg (by omega)]
    exact Nat.le_refl _
theorem rd_L_statement {K : PySem.W.Frag} {n : Nat} {vs : List V} {H : Hp} {Q : VK} {E : XK} (h : sp_L_statement (n + 1) vs H Q E) : t_L_statement K n { nx := fun _ H' => Q .non H', rt := Q } (start ["_", "_", "_", "_", "_", "_"] vs) H := by
  obtain ⟨b, l, k, rfl, B, hk, kk⟩ := h
  show t_L_statement K n _ [some (.ref b), some (.int k), none, none, none, none] H
  unfold t_L_statement; refine st_seq ?_
  push_cast
  refine ⟨b, l, 10, rfl, B, by decide, by decide, fun r H1 r0 r1 B1 f1 => ?_⟩
  unfold t_L_statement_1; refine st_seq ?_
  push_cast
  refine ⟨(by simp only [List.length_cons, List.length_nil]; decide), fun p H2 A2 => ?_⟩
  refine ⟨b, l, 8, rfl, B1.keep A2.fr, by decide, by decide, fun u H3 u0 u1 B3 f3 => ?_⟩
  have hp : H3 p = _ := f3.keep _ _ A2.at_ (B1.off A2.new)
  have hl : ∃ j : Nat, atI [V.int 2, V.int 4] (if u = 1 then 1 else 0) = some (.int j) ∧ j ≤ 4 := by
    split
    · exact ⟨4, atI1 _ _ _, by decide⟩
    · exact ⟨2, atI0 _ _, by decide⟩
  obtain ⟨j, ej, hj⟩ := hl
  push_cast [hp, ej]
  have F3 : Fr [b, l] H H3 := (f1.al A2).trans f3
  unfold t_L_statement_2; refine st_seq ?_
  push_cast
  have c0 : 1 ≤ stC k := by cases k <;> simp only [stC] <;> omega
  refine or2 (fun h0 => ?_) fun h0 h5 => ?_
  · refine st_seq ?_
    push_cast
    refine ⟨(by simp only [List.length_cons, List.length_nil]; decide), fun q H4 A4 => ?_⟩
    push_cast [A4.at_]
    have B4 := B3.keep A4.fr
    refine i2 (fun _ => ?_) fun _ => ?_
    · refine ⟨b, l, j, rfl, B4, by omega, fun e v H5 oe de te B5 f5 => ⟨(by simp only [List.length_cons, List.length_nil]; decide), fun z H6 A6 => ?_⟩⟩
      exact kk (.say e) _ _ ⟨oe, by omega⟩ (by simp only [Sm.dp]; omega) (by simp only [Sm.cnt]; omega) (.tup A6.at_ (.cons (.str _) (.cons (te.tups A6.tu) .nil))) (B5.keep A6.fr) (((F3.al A4).trans f5).al A6)
    · refine ⟨b, l, rfl, B4, fun x H5 nx B5 f5 => ?_⟩
      refine ⟨b, l, j, rfl, B5, by omega, fun e v H6 oe de te B6 f6 => ⟨(by simp only [List.length_cons, List.length_nil]; decide), fun z H7 A7 => ?_⟩⟩
      exact kk (.set x e) _ _ ⟨nx, oe, by omega⟩ (by simp only [Sm.dp]; omega) (by simp only [Sm.cnt]; omega) (.tup A7.at_ (.cons (.str _) (.cons (.str _) (.cons (te.tups A7.tu) .nil)))) (B6.keep A7.fr) ((((F3.al A4).trans f5).trans f6).al A7)
  · unfold t_L_statement_3; refine st_seq ?_
    push_cast
    refine ⟨b, l, 2, rfl, B3, by decide, fun e ve H4 oe de te B4 f4 => ?_⟩
    unfold t_L_statement_4; refine st_seq ?_
    push_cast
    have ek : ((k - 1 : Nat) : Int) = (k : Int) - 1 := by omega
    refine ⟨b, l, 4, rfl, B4, by decide, by decide, fun m5 H5 m0 m1 B5 f5 => ?_⟩
    obtain ⟨m, rfl⟩ : ∃ m : Nat, m5 = m := ⟨m5.toNat, by omega⟩
    refine ⟨b, l, k - 1, m, by rw [ek], B5, by omega, by omega, fun ps vs H6 os ds cs ts B6 f6 => ?_⟩
    unfold t_L_statement_5; refine st_seq ?_
    push_cast
    have F6 : Fr [b, l] H H6 := ((F3.trans f4).trans f5).trans f6
    have te6 : Tp H6 e.d ve := (te.tups f5.tu).tups f6.tu
    obtain ⟨k', rfl⟩ : ∃ k', k = k' + 1 := ⟨k - 1, by omega⟩
    have cs' : cntL ps ≤ rowC (stC k') k' 3 := Nat.le_trans cs (rowC_mono (by omega))
    refine i2 (fun h7 => ?_) fun h7 => ?_
    · refine ⟨b, l, 3, rfl, B6, by decide, by decide, fun q7 H7 q0 q1 B7 f7 => ?_⟩
      obtain ⟨q, rfl⟩ : ∃ q : Nat, q7 = q := ⟨q7.toNat, by omega⟩
      refine ⟨b, l, k' + 1 - 1, q, by rw [ek], B7, by omega, by omega, fun pt vt H8 ot dt ct tt B8 f8 => ?_⟩
      refine ⟨(by simp only [List.length_cons, List.length_nil]; decide), fun z H9 A9 => ?_⟩
      have ct' : cntL pt ≤ rowC (stC k') k' 2 := Nat.le_trans ct (rowC_mono (by omega))
      refine kk (.ite e ps pt) _ _ ⟨⟨oe, by omega⟩, os, ot⟩ ?_ ?_ ?_ (B8.keep A9.fr) (((F6.trans f7).trans f8).al A9)
      · simp only [Sm.dp]
        simp only [Nat.add_sub_cancel] at ds dt
        omega
      · simp only [Sm.cnt, stC]; omega
      · have g8 := (f7.trans f8).tu.trans A9.tu
        exact .tup A9.at_ (.cons (.str _) (.cons (te6.tups g8) (.cons (ts.tups g8) (.cons (tt.tups A9.tu) .nil))))
    · refine ⟨(by simp only [List.length_cons, List.length_nil]; decide), fun z H7 A7 => ?_⟩
      refine kk (.whl e ps) _ _ ⟨⟨oe, by omega⟩, os⟩ ?_ ?_ ?_ (B6.keep A7.fr) (F6.al A7)
      · simp only [Sm.dp]
        simp only [Nat.add_sub_cancel] at ds
        omega
      · simp only [Sm.cnt, stC]; omega
      · exact .tup A7.at_ (.cons (.str _) (.cons (te6.tups A7.tu) (.cons (ts.tups A7.tu) .nil)))
theorem cntL_len : ∀ l : List Sm, l.length ≤ cntL l
  | [] => Nat.le_refl _
  | a :: r => by
    have h1 := cntL_len r
    have h2 : 1 ≤ a.cnt := by cases a <;> simp only [Sm.cnt] <;> omega
    simp only [cntL, List.length_cons]
    omega
theorem rd_L_counted {K : PySem.W.Frag} {vs : List V} {H : Hp} {Q : VK} {E : XK} (h : sp_L_counted vs H Q E) : t_L_counted K { nx := fun _ H' => Q .non H', rt := Q } (start ["_", "_", "_", "_"] vs) H := by
  obtain ⟨v, t, p, rfl, hv, hc, k⟩ := h
  show t_L_counted K _ [some v, some (.int t), none, none] H
  have hl := cntL_len p
  unfold rowD at hv
  simp only [tp_tup, tpl_cons, tpl_nil, tp_str] at hv
  obtain ⟨a, xs, rfl, ha, _, r1, rfl, rfl, v2, r2, rfl, ⟨a2, ys, rfl, ha2, hy⟩, rfl⟩ := hv
  unfold t_L_counted; refine st_seq ?_
  push_cast
  refine ⟨(by simp only [List.length_cons, List.length_nil]; decide), fun p1 H1 A1 => ⟨(by simp only [List.length_cons, List.length_nil]; decide), fun p2 H2 A2 => ⟨(by simp only [List.length_cons, List.length_nil]; decide), fun p3 H3 A3 => ⟨(by simp only [List.length_cons, List.length_nil]; decide), fun p4 H4 A4 => ?_⟩⟩⟩⟩
  have T4 : Tp H4 (Sm.d (.set ("d" : Str) (.op .sub (.name ("d" : Str)) (.num 1)))) (.ref p4) :=
    .tup A4.at_ (.cons (.str _) (.cons (.str _) (.cons (.tup (A4.k A3.at_) (.cons (.str _) (.cons (.tup (A4.k (A3.k (A2.k A1.at_))) (.cons (.str _) (.cons (.str _) .nil))) (.cons (.tup (A4.k (A3.k A2.at_)) (.cons (.str _) (.cons (.int _) .nil))) .nil)))) .nil)))
  have U4 : Tups H H4 := ((A1.tu.trans A2.tu).trans A3.tu).trans A4.tu
  have F4 : Fr [] H H4 := ((A1.fr.al A2).al A3).al A4
  unfold t_L_counted_1; refine st_seq ?_
  push_cast
  refine ⟨(by simp only [List.length_cons, List.length_nil]; decide), fun p5 H5 A5 => ?_⟩
  push_cast [A5.k (U4 _ _ ha)]
  refine ⟨(by simp only [List.length_cons, List.length_nil]; decide), fun p6 H6 A6 => ?_⟩
  have U6 : Tups H4 H6 := A5.tu.trans A6.tu
  have yl : ys.length ≤ 20000 := by rw [hy.length, dL_map, List.length_map]; omega
  refine ⟨_, U6 _ _ (U4 _ _ ha2), _, A6.at_, Nat.le_trans (m := 20001) (by simp only [List.length_cons, List.length_nil]; omega) (by decide), fun p7 H7 h7 f7 => ?_⟩
  refine ⟨(by simp only [List.length_cons, List.length_nil]; decide), fun p8 H8 A8 => ⟨(by simp only [List.length_cons, List.length_nil]; decide), fun p9 H9 A9 => ?_⟩⟩
  refine ⟨(by simp only [List.length_cons, List.length_nil]; decide), fun q1 G1 C1 => ⟨(by simp only [List.length_cons, List.length_nil]; decide), fun q2 G2 C2 => ⟨(by simp only [List.length_cons, List.length_nil]; decide), fun q3 G3 C3 => ⟨(by simp only [List.length_cons, List.length_nil]; decide), fun q4 G4 C4 => ?_⟩⟩⟩⟩
  have W : Tups H9 G4 := ((C1.tu.trans C2.tu).trans C3.tu).trans C4.tu
  have W7 : Tups H7 G4 := (A8.tu.trans A9.tu).trans W
  have W4 : Tups H4 G4 := (U6.trans f7.tu).trans W7
  refine k _ _ ?_ ((((((((((F4.al A5).al A6).trans f7).al A8).al A9).al C1).al C2).al C3).al C4))
  refine .tup C4.at_ (.cons (.str _) (.cons (.tup (C4.k C3.at_) ?_) .nil))
  have e1 : dL (countP t p) = [Sm.d (.set ("d" : Str) (.num t)), Sm.d (.whl (.name ("d" : Str)) (p ++ [.set ("d" : Str) (.op .sub (.name ("d" : Str)) (.num 1))]))] := by simp only [countP, dL]
  rw [e1]
  refine .cons (.tup (C4.k (C3.k C2.at_)) (.cons (.str _) (.cons (.str _) (.cons (.tup (C4.k (C3.k (C2.k C1.at_))) (.cons (.str _) (.cons (.int _) .nil))) .nil)))) (.cons ?_ .nil)
  simp only [Sm.d]
  refine .tup (W _ _ A9.at_) (.cons (.str _) (.cons (.tup (((A6.tu.trans f7.tu).trans W7) _ _ A5.at_) (.cons (.str _) (.cons (.str _) .nil))) (.cons (.tup (W _ _ (A9.k A8.at_)) (.cons (.str _) (.cons (.tup (W7 _ _ h7) ?_) .nil))) .nil)))
  rw [dL_map, List.map_append]
  refine TpL.append ?_ (.cons (T4.tups W4) .nil)
  rw [← dL_map]
  exact hy.tups (U4.trans W4)
theorem rd_L_program {K : PySem.W.Frag} {vs : List V} {H : Hp} {Q : VK} {E : XK} (h : sp_L_program vs H Q E) : t_L_program K { nx := fun _ H' => Q .non H', rt := Q } (start ["_", "_", "_", "_"] vs) H := by
  obtain ⟨b, l, rfl, B, k⟩ := h
  show t_L_program K _ [some (.ref b), some (.int 3), none, none] H
  unfold t_L_program; refine st_seq ?_
  push_cast
  refine ⟨b, l, 3, rfl, B, by decide, by decide, fun r H1 r0 r1 B1 f1 => ?_⟩
  push_cast
  unfold t_L_program_1; refine st_seq ?_
  push_cast
  refine ⟨b, l, 8, rfl, B1, by decide, by decide, fun u H2 u0 u1 B2 f2 => ?_⟩
  push_cast
  have go : ∀ (m : Nat) (H3 : Hp), m ≤ 8 → BoxAt H3 b l → Fr [b, l] H H3 → t_L_program_2 K { nx := fun _ H' => Q .non H', rt := Q } [some (.ref b), some (.int 3), some (.int m), none] H3 := fun m H3 hm B3 f3 => ?tail
  refine i2 (fun _ => ?_) fun _ => ?_
  · refine ⟨b, l, 8, rfl, B2, by decide, by decide, fun s H3 s0 s1 B3 f3 => ?_⟩
    push_cast
    obtain ⟨m, hm⟩ : ∃ m : Nat, 1 + s = m := ⟨(1 + s).toNat, by omega⟩
    rw [hm]
    exact go m H3 (by omega) B3 ((f1.trans f2).trans f3)
  · obtain ⟨m, hm⟩ : ∃ m : Nat, 1 + r = m := ⟨(1 + r).toNat, by omega⟩
    rw [hm]
    exact go m H2 (by omega) B2 (f1.trans f2)
  case tail =>
    unfold t_L_program_2; refine st_seq ?_
    push_cast
    refine ⟨b, l, 3, m, rfl, B3, by decide, hm, fun p v H4 op dp cp tp B4 f4 => ?_⟩
    have cp' : cntL p ≤ 10928 := Nat.le_trans cp (Nat.le_trans (rowC_mono hm) (by decide))
    unfold t_L_program_3; refine st_seq ?_
    push_cast
    refine ⟨b, l, 2, rfl, B4, by decide, by decide, fun u H5 u0 u1 B5 f5 => ?_⟩
    push_cast
    refine i2 (fun _ => ?_) fun _ => ?_
    · refine ⟨b, l, 20, rfl, B5, by decide, by decide, fun t H6 t0 t1 B6 f6 => ?_⟩
      push_cast
      refine ⟨v, 1 + t, p, rfl, (tp.tups f5.tu).tups f6.tu, by omega, fun v' H7 t7 f7 => ?_⟩
      unfold t_L_program_4
      push_cast
      refine k (countP (1 + t) p) _ _ ?_ ?_ ?_ t7 (B6.keep f7) ((((f3.trans f4).trans f5).trans f6).trans f7.sub0)
      · refine ⟨⟨nm_d, ⟨by omega, by omega⟩, by simp only [Ex.dep]; decide⟩, ⟨⟨⟨nm_d, by decide⟩, okL_append op ⟨⟨nm_d, ⟨nm_d, by decide, by decide⟩, by decide⟩, trivial⟩⟩, trivial⟩⟩
      · simp only [countP, dpL, Sm.dp, dpL_snoc]; omega
      · simp only [countP, cntL, Sm.cnt, cntL_snoc]; omega
    · unfold t_L_program_4
      push_cast
      exact k p _ _ op (by omega) (by omega) (tp.tups f5.tu) B5 ((f3.trans f4).trans f5)

/-- _law_part_code -/
def t_L_part_code (K : PySem.W.Frag) (n : Nat) : TS :=
  (tSeq (tIfS (tTest (tOp (rInT false) (tOp rXT (tVar 0) (tC (.int 0))) (xTup (tCons (tC (.str (wd 0))) (tCons (tC (.str (wd 1))) (tCons (tC (.str (wd 2))) tNil)))))) (tRet (xLst (tCons (tVar 0) tNil))) tNext)
    (tRet (tOp rCt (tOp rCt (tCall (sp_L_part_code n) [] E0 (tCons (tOp rXT (tVar 0) (tC (.int 1))) tNil)) (tCall (sp_L_part_code n) [] E0 (tCons (tOp rXT (tVar 0) (tC (.int 2))) tNil))) (xLst (tCons (xTup (tCons (tOp rXT (tVar 0) (tC (.int 0))) tNil)) tNil)))))

/-- _law_code from 8 -/
def t_L_code_8 (K : PySem.W.Frag) (n : Nat) : TS :=
  (tSeq (tAsg (tCall (sp_L_code n) [] E0 (tCons (tOp rXT (tVar 0) (tC (.int 3))) (tCons (tVar 9) tNil))) (gName 10))
    (tRet (tOp rCt (tOp rCt (tOp rCt (tOp rCt (tVar 5) (xLst (tCons (xTup (tCons (tC (.str (wd 9))) (tCons (tVar 9) tNil))) tNil))) (tVar 8)) (xLst (tCons (xTup (tCons (tC (.str (wd 10))) (tCons (tOp (rI0 fun i j => .int (i + j)) (tVar 9) (tCB rLenL (tCons (tVar 10) tNil))) tNil))) tNil))) (tVar 10))))

/-- _law_code from 7 -/
def t_L_code_7 (K : PySem.W.Frag) (n : Nat) : TS :=
  tSeq (tAsg (tOp (rI0 fun i j => .int (i + j)) (tOp (rI0 fun i j => .int (i + j)) (tOp (rI0 fun i j => .int (i + j)) (tVar 1) (tCB rLenL (tCons (tVar 5) tNil))) (tCB rLenL (tCons (tVar 8) tNil))) (tC (.int 2))) (gName 9)) (t_L_code_8 K n)

/-- _law_code from 6 -/
def t_L_code_6 (K : PySem.W.Frag) (n : Nat) : TS :=
  tSeq (tAsg (tCall (sp_L_code n) [] E0 (tCons (tOp rXT (tVar 0) (tC (.int 2))) (tCons (tOp (rI0 fun i j => .int (i + j)) (tOp (rI0 fun i j => .int (i + j)) (tVar 1) (tCB rLenL (tCons (tVar 5) tNil))) (tC (.int 1))) tNil))) (gName 8)) (t_L_code_7 K n)

/-- _law_code from 5 -/
def t_L_code_5 (K : PySem.W.Frag) (n : Nat) : TS :=
  tSeq (tIfS (tTest (tOp rEq (tVar 2) (tC (.str (wd 15))))) (tSeq (tAsg (tCall (sp_L_code n) [] E0 (tCons (tOp rXT (tVar 0) (tC (.int 2))) (tCons (tOp (rI0 fun i j => .int (i + j)) (tOp (rI0 fun i j => .int (i + j)) (tVar 1) (tCB rLenL (tCons (tVar 5) tNil))) (tC (.int 2))) tNil))) (gName 6))
    (tSeq (tAsg (tOp (rI0 fun i j => .int (i + j)) (tOp (rI0 fun i j => .int (i + j)) (tOp (rI0 fun i j => .int (i + j)) (tVar 1) (tCB rLenL (tCons (tVar 5) tNil))) (tCB rLenL (tCons (tVar 6) tNil))) (tC (.int 3))) (gName 7))
    (tRet (tOp rCt (tOp rCt (tOp rCt (tOp rCt (xLst (tCons (xTup (tCons (tC (.str (wd 11))) tNil)) tNil)) (tVar 5)) (xLst (tCons (xTup (tCons (tC (.str (wd 9))) (tCons (tVar 7) tNil))) tNil))) (tVar 6)) (xLst (tCons (xTup (tCons (tC (.str (wd 10))) (tCons (tVar 1) tNil))) tNil)))))) tNext) (t_L_code_6 K n)

/-- _law_code from 4 -/
def t_L_code_4 (K : PySem.W.Frag) (n : Nat) : TS :=
  tSeq (tAsg (tCall (sp_L_part_code 7) [] E0 (tCons (tOp rXT (tVar 0) (tC (.int 1))) tNil)) (gName 5)) (t_L_code_5 K n)

/-- _law_code from 3 -/
def t_L_code_3 (K : PySem.W.Frag) (n : Nat) : TS :=
  tSeq (tIfS (tTest (tOp rEq (tVar 2) (tC (.str (wd 8))))) (tRet (tOp rCt (tCall (sp_L_part_code 7) [] E0 (tCons (tOp rXT (tVar 0) (tC (.int 2))) tNil)) (xLst (tCons (xTup (tCons (tC (.str (wd 8))) (tCons (tOp rXT (tVar 0) (tC (.int 1))) tNil))) tNil)))) tNext) (t_L_code_4 K n)

/-- _law_code from 2 -/
def t_L_code_2 (K : PySem.W.Frag) (n : Nat) : TS :=
  tSeq (tIfS (tTest (tOp rEq (tVar 2) (tC (.str (wd 7))))) (tRet (tOp rCt (tCall (sp_L_part_code 7) [] E0 (tCons (tOp rXT (tVar 0) (tC (.int 1))) tNil)) (xLst (tCons (xTup (tCons (tC (.str (wd 7))) tNil)) tNil)))) tNext) (t_L_code_3 K n)

/-- _law_code from 1 -/
def t_L_code_1 (K : PySem.W.Frag) (n : Nat) : TS :=
  tSeq (tIfS (tTest (tOp rEq (tVar 2) (tC (.str (wd 13))))) (tSeq (tAsg (xLst tNil) (gName 3))
    (tSeq (tFor (iTup K (tOp rXT (tVar 0) (tC (.int 1)))) (gName 4)
    (tAsg (tOp rCt (tVar 3) (tCall (sp_L_code n) [] E0 (tCons (tVar 4) (tCons (tOp (rI0 fun i j => .int (i + j)) (tVar 1) (tCB rLenL (tCons (tVar 3) tNil))) tNil)))) (gName 3)))
    (tRet (tVar 3)))) tNext) (t_L_code_2 K n)

/-- _law_code -/
def t_L_code (K : PySem.W.Frag) (n : Nat) : TS :=
  tSeq (tAsg (tOp rXT (tVar 0) (tC (.int 0))) (gName 2)) (t_L_code_1 K n)

/-- _law_coded -/
def t_L_coded (K : PySem.W.Frag) : TS :=
  (tRet (tCB rTupL (tCons (tOp rCt (tCall (sp_L_code 20) [] E0 (tCons (tVar 0) (tCons (tC (.int 0)) tNil))) (xLst (tCons (xTup (tCons (tC (.str (wd 12))) tNil)) tNil))) tNil)))

theorem wd_ne {i j : Nat} (hi : i < 42) (hj : j < 42) (h : i ≠ j) : decide (wd i = wd j) = false := decide_eq_false fun e => h (by rw [wd_eq hi hj] at e; exact e)
theorem sg_ne (s : Sg) {i : Nat} (hi : i < 3 ∨ (6 < i ∧ i < 42)) : decide (wd i = s.s) = false := by
  have h : s.ix < 42 ∧ 3 ≤ s.ix ∧ s.ix ≤ 6 := by cases s <;> decide
  exact wd_ne (by omega) h.1 (by omega)
theorem sg_ne' (s : Sg) {i : Nat} (hi : i < 3 ∨ (6 < i ∧ i < 42)) : decide (s.s = wd i) = false := by
  have h : s.ix < 42 ∧ 3 ≤ s.ix ∧ s.ix ≤ 6 := by cases s <;> decide
  exact wd_ne h.1 (by omega) (by omega)
theorem big {n : Nat} (h : n ≤ 8000000) : n ≤ sizeLine := Nat.le_trans h (by decide)
theorem bigL {n : Nat} (h : n ≤ 8000000) : n < sizeLine := Nat.lt_of_le_of_lt h (by decide)
theorem Ex.len10 {e : Ex} (h : e.dep ≤ 10) : e.code.length ≤ 1024 := Ex.lenM h
theorem rd_L_part_code {K : PySem.W.Frag} {n : Nat} {vs : List V} {H : Hp} {Q : VK} {E : XK} (h : sp_L_part_code (n + 1) vs H Q E) : t_L_part_code K n { nx := fun _ H' => Q .non H', rt := Q } (start ["_"] vs) H := by
  obtain ⟨v, e, rfl, hv, hd, hd', k⟩ := h
  show t_L_part_code K n _ [some v] H
  unfold t_L_part_code; refine st_seq ?_
  cases e with
  | num i =>
    have hv0 := hv
    simp only [Ex.d, tp_tup, tpl_cons, tpl_nil, tp_str, tp_int] at hv
    obtain ⟨a, xs, rfl, ha, _, r1, rfl, rfl, _, r2, rfl, rfl, rfl⟩ := hv
    push_cast [ha]
    refine ⟨(by simp only [List.length_cons, List.length_nil]; decide), fun p H1 A1 => ?_⟩
    push_cast [A1.at_]
    refine ⟨(by simp only [List.length_cons, List.length_nil]; decide), fun q H2 A2 => ?_⟩
    exact k _ _ _ A2.at_ (.cons ((hv0.tups A1.tu).tups A2.tu) .nil) (A1.fr.al A2)
  | text i =>
    have hv0 := hv
    simp only [Ex.d, tp_tup, tpl_cons, tpl_nil, tp_str, tp_int] at hv
    obtain ⟨a, xs, rfl, ha, _, r1, rfl, rfl, _, r2, rfl, rfl, rfl⟩ := hv
    push_cast [ha]
    refine ⟨(by simp only [List.length_cons, List.length_nil]; decide), fun p H1 A1 => ?_⟩
    push_cast [A1.at_]
    refine ⟨(by simp only [List.length_cons, List.length_nil]; decide), fun q H2 A2 => ?_⟩
    exact k _ _ _ A2.at_ (.cons ((hv0.tups A1.tu).tups A2.tu) .nil) (A1.fr.al A2)
  | name i =>
    have hv0 := hv
    simp only [Ex.d, tp_tup, tpl_cons, tpl_nil, tp_str, tp_int] at hv
    obtain ⟨a, xs, rfl, ha, _, r1, rfl, rfl, _, r2, rfl, rfl, rfl⟩ := hv
    push_cast [ha]
    refine ⟨(by simp only [List.length_cons, List.length_nil]; decide), fun p H1 A1 => ?_⟩
    push_cast [A1.at_]
    refine ⟨(by simp only [List.length_cons, List.length_nil]; decide), fun q H2 A2 => ?_⟩
    exact k _ _ _ A2.at_ (.cons ((hv0.tups A1.tu).tups A2.tu) .nil) (A1.fr.al A2)
  | op s e1 e2 =>
    simp only [Ex.d, tp_tup, tpl_cons, tpl_nil, tp_str, tp_int] at hv
    obtain ⟨a, xs, rfl, ha, _, r1, rfl, rfl, v1, r2, rfl, t1, v2, r3, rfl, t2, rfl⟩ := hv
    simp only [Ex.dep] at hd hd'
    push_cast [ha]
    refine ⟨(by simp only [List.length_cons, List.length_nil]; decide), fun p H1 A1 => ?_⟩
    push_cast [A1.at_, sg_ne s (i := 0) (by decide), sg_ne s (i := 1) (by decide), sg_ne s (i := 2) (by decide), A1.k ha]
    refine ⟨v1, e1, rfl, t1.tups A1.tu, by omega, by omega, fun b xs H2 hb tb f2 => ?_⟩
    push_cast [f2.tu _ _ (A1.k ha)]
    refine ⟨v2, e2, rfl, (t2.tups A1.tu).tups f2.tu, by omega, by omega, fun c ys H3 hc tc f3 => ?_⟩
    push_cast [f3.keep _ _ hb (by simp), hc]
    have l1 : xs.length ≤ 1024 := by rw [tb.length, List.length_map]; exact Ex.len10 (by omega)
    have l2 : ys.length ≤ 1024 := by rw [tc.length, List.length_map]; exact Ex.len10 (by omega)
    refine ⟨big (by omega), fun p4 H4 A4 => ?_⟩
    push_cast [A4.k (f3.tu _ _ (f2.tu _ _ (A1.k ha)))]
    refine ⟨(by simp only [List.length_cons, List.length_nil]; decide), fun p5 H5 A5 => ⟨(by simp only [List.length_cons, List.length_nil]; decide), fun p6 H6 A6 => ?_⟩⟩
    push_cast [A6.at_, A6.k (A5.k A4.at_)]
    refine ⟨big (by simp only [List.length_append, List.length_cons, List.length_nil]; omega), fun p7 H7 A7 => ?_⟩
    refine k _ _ _ A7.at_ ?_ ((((((A1.fr.trans f2).trans f3).al A4).al A5).al A6).al A7)
    have W : Tups H3 H7 := ((A4.tu.trans A5.tu).trans A6.tu).trans A7.tu
    simp only [Ex.code, List.map_append, List.map_cons, List.map_nil]
    exact TpL.append (TpL.append (tb.tups (f3.tu.trans W)) (tc.tups W)) (.cons (.tup (A7.k (A6.k A5.at_)) (.cons (.str _) .nil)) .nil)
theorem tp_row {H : Hp} {l : List Sm} {v : V} (h : Tp H (rowD l) v) : ∃ a a2 ys, v = .ref a ∧ H a = some (.tup [.str (wd 13), .ref a2]) ∧ H a2 = some (.tup ys) ∧ TpL H (l.map Sm.d) ys := by
  unfold rowD at h
  simp only [tp_tup, tpl_cons, tpl_nil, tp_str] at h
  obtain ⟨a, xs, rfl, ha, _, r1, rfl, rfl, v2, r2, rfl, ⟨a2, ys, rfl, ha2, hy⟩, rfl⟩ := h
  rw [dL_map] at hy
  exact ⟨a, a2, ys, rfl, ha, ha2, hy⟩
theorem tp_say {H : Hp} {e : Ex} {v : V} (h : Tp H (Sm.say e).d v) : ∃ a ve, v = .ref a ∧ H a = some (.tup [.str (wd 7), ve]) ∧ Tp H e.d ve := by
  simp only [Sm.d, tp_tup, tpl_cons, tpl_nil, tp_str] at h
  obtain ⟨a, xs, rfl, ha, _, r1, rfl, rfl, v1, r2, rfl, t1, rfl⟩ := h
  exact ⟨a, v1, rfl, ha, t1⟩
theorem tp_set {H : Hp} {x : Str} {e : Ex} {v : V} (h : Tp H (Sm.set x e).d v) : ∃ a ve, v = .ref a ∧ H a = some (.tup [.str (wd 8), .str x, ve]) ∧ Tp H e.d ve := by
  simp only [Sm.d, tp_tup, tpl_cons, tpl_nil, tp_str] at h
  obtain ⟨a, xs, rfl, ha, _, r1, rfl, rfl, _, r2, rfl, rfl, v1, r3, rfl, t1, rfl⟩ := h
  exact ⟨a, v1, rfl, ha, t1⟩
theorem tp_ite {H : Hp} {e : Ex} {s t : List Sm} {v : V} (h : Tp H (Sm.ite e s t).d v) : ∃ a ve vs vt, v = .ref a ∧ H a = some (.tup [.str (wd 14), ve, vs, vt]) ∧ Tp H e.d ve ∧ Tp H (rowD s) vs ∧ Tp H (rowD t) vt := by
  have h' : Tp H (.tuple [.str (wd 14), e.d, rowD s, rowD t]) v := by simpa only [Sm.d, rowD] using h
  rw [tp_tup] at h'
  simp only [tpl_cons, tpl_nil, tp_str] at h'
  obtain ⟨a, xs, rfl, ha, _, r1, rfl, rfl, v1, r2, rfl, t1, v2, r3, rfl, t2, v3, r4, rfl, t3, rfl⟩ := h'
  exact ⟨a, v1, v2, v3, rfl, ha, t1, t2, t3⟩
theorem tp_whl {H : Hp} {e : Ex} {s : List Sm} {v : V} (h : Tp H (Sm.whl e s).d v) : ∃ a ve vs, v = .ref a ∧ H a = some (.tup [.str (wd 15), ve, vs]) ∧ Tp H e.d ve ∧ Tp H (rowD s) vs := by
  have h' : Tp H (.tuple [.str (wd 15), e.d, rowD s]) v := by simpa only [Sm.d, rowD] using h
  rw [tp_tup] at h'
  simp only [tpl_cons, tpl_nil, tp_str] at h'
  obtain ⟨a, xs, rfl, ha, _, r1, rfl, rfl, v1, r2, rfl, t1, v2, r3, rfl, t2, rfl⟩ := h'
  exact ⟨a, v1, v2, rfl, ha, t1, t2⟩
theorem take_snoc {α : Type} {l : List α} {i : Nat} {s : α} (h : l[i]? = some s) : l.take (i + 1) = l.take i ++ [s] := by rw [List.take_succ, h]; rfl
theorem codeL_snoc (l : List Sm) (s : Sm) (b : Nat) : codeL (l ++ [s]) b = codeL l b ++ s.code (b + (codeL l b).length) := by rw [codeL_append]; simp [codeL]
theorem map_get {α β : Type} {f : α → β} {l : List α} {i : Nat} {y : β} (h : (l.map f)[i]? = some y) : ∃ x, l[i]? = some x ∧ f x = y := by
  rw [List.getElem?_map] at h
  cases e : l[i]? with
  | none => rw [e] at h; cases h
  | some x => rw [e] at h; exact ⟨x, rfl, Option.some.inj h⟩
theorem code_bound {o : Un} {b : Nat} (h : o.ok 5) (hc : o.cnt ≤ 20000) : (o.code b).length ≤ 700000 := by
  have := o.len_le b h
  have h2 : (2 ^ 5 + 3) * o.cnt ≤ 35 * 20000 := Nat.mul_le_mul (by decide) hc
  omega
theorem mem_of_get {α : Type} {l : List α} {i : Nat} {x : α} (h : l[i]? = some x) : x ∈ l := List.mem_of_getElem? h
theorem cnt_mem : ∀ {l : List Sm} {s : Sm}, s ∈ l → s.cnt ≤ cntL l
  | _ :: _, _, .head _ => by simp only [cntL]; omega
  | _ :: _, _, .tail _ h' => by have := cnt_mem h'; simp only [cntL]; omega
/-- the rows of a row -/
def CodeInv (b : Nat) (l : List Sm) (H : Hp) (w : V) (v0 : V) (i : Nat) (σ : L2.St) (H' : Hp) : Prop := ∃ (r : Addr) (xs : List V) (σ4 : Option V), σ = [some v0, some (.int b), some w, some (.ref r), σ4, none, none, none, none, none, none] ∧
  H' r = some (.lst xs) ∧ TpL H' ((codeL (l.take i) b).map Rw.d) xs ∧ Fr [] H H'
theorem rd_L_code {K : PySem.W.Frag} {n : Nat} {vs : List V} {H : Hp} {Q : VK} {E : XK} (h : sp_L_code (n + 1) vs H Q E) : t_L_code K n { nx := fun _ H' => Q .non H', rt := Q } (start ["_", "_", "_", "_", "_", "_", "_", "_", "_", "_", "_"] vs) H := by
  obtain ⟨v, b, o, rfl, hv, hd, ok, hc, k⟩ := h
  show t_L_code K n _ [some v, some (.int b), none, none, none, none, none, none, none, none, none] H
  unfold t_L_code; refine st_seq ?_
  cases o with
  | row l =>
    obtain ⟨a, a2, ys, rfl, ha, ha2, hy⟩ := tp_row hv
    push_cast [ha]
    unfold t_L_code_1; refine st_seq ?_
    push_cast
    refine st_seq ?_
    push_cast
    refine ⟨(by simp only [List.length_cons, List.length_nil]; decide), fun p H1 A1 => ?_⟩
    refine st_seq (forT (a := a2) (xs := ys) (fun R h => by push_cast [A1.k ha]; exact h) (A1.k ha2) (CodeInv b l H1 (.str (wd 13)) (.ref a)) ⟨p, [], none, rfl, A1.at_, by simp only [List.take_zero, codeL, List.map_nil]; exact .nil, .refl _ _⟩ ?_ ?_ ?_)
    · rintro i σ' H' ⟨r, xs, σ4, rfl, h1, h2, f⟩
      exact f.tu _ _ (A1.k ha2)
    · rintro i x σ' H' hx ⟨r, xs, σ4, rfl, h1, h2, f⟩
      obtain ⟨d, hd1, hd2⟩ := hy.get' hx
      obtain ⟨s, hs, rfl⟩ := map_get hd1
      have ms := mem_of_get hs
      have d1 := dpL_mem ms
      have c1 := cnt_mem ms
      have hlen : xs.length = (codeL (l.take i) b).length := by rw [h2.length, List.length_map]
      have lb : xs.length ≤ 700000 := by
        rw [hlen]
        exact code_bound (o := .row (l.take i)) (okL_take l i ok) (Nat.le_trans (cntL_take l i) hc)
      show tAsg _ _ _ [some (.ref a), some (.int b), some (.str (wd 13)), some (.ref r), some x, none, none, none, none, none, none] H'
      push_cast [h1]
      have ok1 := okL_mem ok ms
      refine ⟨x, b + xs.length, .st s, by rw [Int.natCast_add], (hd2.tups A1.tu).tups f.tu, by simp only [Un.dp] at hd ⊢; omega, ok1, by simp only [Un.cnt] at hc ⊢; omega, fun q zs H2 hq tq f2 => ?_⟩
      push_cast [f2.keep _ _ h1 (by simp), hq]
      have lz : zs.length ≤ 700000 := by
        rw [tq.length, List.length_map]
        exact code_bound (o := .st s) ok1 (by simp only [Un.cnt] at hc ⊢; omega)
      refine ⟨big (by omega), fun q3 H3 A3 => ⟨q3, _, _, rfl, A3.at_, ?_, (f.trans f2).al A3⟩⟩
      rw [take_snoc hs, codeL_snoc, List.map_append, ← hlen]
      exact TpL.append ((h2.tups f2.tu).tups A3.tu) (tq.tups A3.tu)
    · rintro σ' H' ⟨r, xs, σ4, rfl, h1, h2, f⟩
      push_cast
      rw [hy.length, List.length_map, List.take_length] at h2
      exact k _ _ _ h1 h2 (A1.fr.trans f)
  | st s =>
    cases s with
    | say e =>
      obtain ⟨a, ve, rfl, ha, te⟩ := tp_say hv
      push_cast [ha]
      unfold t_L_code_1; refine st_seq ?_
      push_cast
      unfold t_L_code_2; refine st_seq ?_
      push_cast [ha]
      refine ⟨ve, e, rfl, te, Nat.le_trans ok.2 (by decide), Nat.le_trans ok.2 (by decide), fun p xs H1 hp tp f1 => ?_⟩
      push_cast
      refine ⟨(by simp only [List.length_cons, List.length_nil]; decide), fun q2 H2 A2 => ⟨(by simp only [List.length_cons, List.length_nil]; decide), fun q3 H3 A3 => ?_⟩⟩
      push_cast [A3.at_, A3.k (A2.k hp)]
      have lz : xs.length ≤ 1024 := by rw [tp.length, List.length_map]; exact Ex.len10 (Nat.le_trans ok.2 (by decide))
      refine ⟨big (by simp only [List.length_cons, List.length_nil]; omega), fun q4 H4 A4 => ?_⟩
      refine k _ _ _ A4.at_ ?_ (((f1.al A2).al A3).al A4)
      simp only [Un.code, Sm.code, List.map_append, List.map_cons, List.map_nil]
      exact TpL.append (((tp.tups A2.tu).tups A3.tu).tups A4.tu) (.cons (.tup (A4.k (A3.k A2.at_)) (.cons (.str _) .nil)) .nil)
    | set x e =>
      obtain ⟨a, ve, rfl, ha, te⟩ := tp_set hv
      push_cast [ha]
      unfold t_L_code_1; refine st_seq ?_
      push_cast
      unfold t_L_code_2; refine st_seq ?_
      push_cast
      unfold t_L_code_3; refine st_seq ?_
      push_cast [ha]
      refine ⟨ve, e, rfl, te, Nat.le_trans ok.2.2 (by decide), Nat.le_trans ok.2.2 (by decide), fun p xs H1 hp tp f1 => ?_⟩
      push_cast [f1.tu _ _ ha]
      refine ⟨(by simp only [List.length_cons, List.length_nil]; decide), fun q2 H2 A2 => ⟨(by simp only [List.length_cons, List.length_nil]; decide), fun q3 H3 A3 => ?_⟩⟩
      push_cast [A3.at_, A3.k (A2.k hp)]
      have lz : xs.length ≤ 1024 := by rw [tp.length, List.length_map]; exact Ex.len10 (Nat.le_trans ok.2.2 (by decide))
      refine ⟨big (by simp only [List.length_cons, List.length_nil]; omega), fun q4 H4 A4 => ?_⟩
      refine k _ _ _ A4.at_ ?_ (((f1.al A2).al A3).al A4)
      simp only [Un.code, Sm.code, List.map_append, List.map_cons, List.map_nil]
      exact TpL.append (((tp.tups A2.tu).tups A3.tu).tups A4.tu) (.cons (.tup (A4.k (A3.k A2.at_)) (.cons (.str _) (.cons (.str _) .nil))) .nil)
    | ite e s1 s2 =>
      obtain ⟨a, ve, v1, v2, rfl, ha, te, ts1, ts2⟩ := tp_ite hv
      simp only [Un.dp, Sm.dp] at hd
      simp only [Un.cnt, Sm.cnt] at hc
      have hde := ok.1.2
      push_cast [ha]
      unfold t_L_code_1; refine st_seq ?_
      push_cast
      unfold t_L_code_2; refine st_seq ?_
      push_cast
      unfold t_L_code_3; refine st_seq ?_
      push_cast
      unfold t_L_code_4; refine st_seq ?_
      push_cast [ha]
      refine ⟨ve, e, rfl, te, Nat.le_trans hde (by decide), Nat.le_trans hde (by decide), fun p1 xs1 H1 h1 t1 f1 => ?_⟩
      unfold t_L_code_5; refine st_seq ?_
      push_cast
      unfold t_L_code_6; refine st_seq ?_
      push_cast [f1.tu _ _ ha, h1]
      have L1 : xs1.length = e.code.length := by rw [t1.length, List.length_map]
      refine ⟨v1, b + xs1.length + 1, .row s1, by simp only [Int.natCast_add]; rfl, ts1.tups f1.tu, by simp only [Un.dp]; omega, ok.2.1, by simp only [Un.cnt]; omega, fun p2 xs2 H2 h2 t2 f2 => ?_⟩
      have L2 : xs2.length = (codeL s1 (b + e.code.length + 1)).length := by rw [t2.length, List.length_map, L1]; rfl
      unfold t_L_code_7; refine st_seq ?_
      push_cast [f2.keep _ _ h1 (by simp), h2]
      unfold t_L_code_8; refine st_seq ?_
      push_cast [f2.tu _ _ (f1.tu _ _ ha)]
      refine ⟨v2, b + xs1.length + xs2.length + 2, .row s2, by simp only [Int.natCast_add]; rfl, (ts2.tups f1.tu).tups f2.tu, by simp only [Un.dp]; omega, ok.2.2, by simp only [Un.cnt]; omega, fun p3 xs3 H3 h3 t3 f3 => ?_⟩
      have L3 : xs3.length = (codeL s2 (b + e.code.length + (codeL s1 (b + e.code.length + 1)).length + 2)).length := by rw [t3.length, List.length_map, L1, L2]; rfl
      push_cast
      refine ⟨(by simp only [List.length_cons, List.length_nil]; decide), fun q4 H4 A4 => ⟨(by simp only [List.length_cons, List.length_nil]; decide), fun q5 H5 A5 => ?_⟩⟩
      have B1 : xs1.length ≤ 1024 := by rw [L1]; exact Ex.len10 (Nat.le_trans hde (by decide))
      have B2 : xs2.length ≤ 700000 := by rw [L2]; exact code_bound (o := .row s1) ok.2.1 (by simp only [Un.cnt]; omega)
      have B3 : xs3.length ≤ 700000 := by rw [L3]; exact code_bound (o := .row s2) ok.2.2 (by simp only [Un.cnt]; omega)
      have f12 : Fr [] H1 H3 := f2.trans f3
      push_cast [A5.at_, A5.k (A4.k (f12.keep _ _ h1 (by simp)))]
      refine ⟨big (by simp only [List.length_cons, List.length_nil]; omega), fun q6 H6 A6 => ?_⟩
      have f36 : Fr [] H3 H6 := (A4.fr.al A5).al A6
      push_cast [A6.at_, (f3.trans f36).keep _ _ h2 (by simp)]
      refine ⟨big (by simp only [List.length_append, List.length_cons, List.length_nil]; omega), fun q7 H7 A7 => ?_⟩
      push_cast [(f36.al A7).keep _ _ h3 (by simp)]
      refine ⟨(by simp only [List.length_cons, List.length_nil]; decide), fun q8 H8 A8 => ⟨(by simp only [List.length_cons, List.length_nil]; decide), fun q9 H9 A9 => ?_⟩⟩
      push_cast [A9.at_, A9.k (A8.k A7.at_)]
      refine ⟨big (by simp only [List.length_append, List.length_cons, List.length_nil]; omega), fun q10 H10 A10 => ?_⟩
      have f310 : Fr [] H3 H10 := (((f36.al A7).al A8).al A9).al A10
      push_cast [A10.at_, f310.keep _ _ h3 (by simp)]
      refine ⟨big (by simp only [List.length_append, List.length_cons, List.length_nil]; omega), fun q11 H11 A11 => ?_⟩
      refine k _ _ _ A11.at_ ?_ ((((f1.trans f2).trans f3).trans f310).al A11)
      have W : Tups H3 H11 := (f310.al A11).tu
      simp only [Un.code, Sm.code, List.map_append, List.map_cons, List.map_nil, Rw.d]
      refine TpL.append (TpL.append (TpL.append (TpL.append (t1.tups (f12.tu.trans W)) (.cons (.tup ((((((A5.tu.trans A6.tu).trans A7.tu).trans A8.tu).trans A9.tu).trans A10.tu).trans A11.tu |> fun z => z _ _ A4.at_) (.cons (.str _) (.cons ?_ .nil))) .nil)) ?_) (.cons (.tup (((A9.tu.trans A10.tu).trans A11.tu) _ _ A8.at_) (.cons (.str _) (.cons ?_ .nil))) .nil)) ?_
      · rw [tp_int, L1, L2]; simp only [Int.natCast_add]; rfl
      · have := t2.tups (f3.tu.trans W); rw [L1] at this; exact this
      · rw [tp_int, L3, L2, L1]; simp only [Int.natCast_add]; rfl
      · have := t3.tups W; rw [L1, L2] at this; exact this
    | whl e s1 =>
      obtain ⟨a, ve, v1, rfl, ha, te, ts1⟩ := tp_whl hv
      simp only [Un.dp, Sm.dp] at hd
      simp only [Un.cnt, Sm.cnt] at hc
      have hde := ok.1.2
      push_cast [ha]
      unfold t_L_code_1; refine st_seq ?_
      push_cast
      unfold t_L_code_2; refine st_seq ?_
      push_cast
      unfold t_L_code_3; refine st_seq ?_
      push_cast
      unfold t_L_code_4; refine st_seq ?_
      push_cast [ha]
      refine ⟨ve, e, rfl, te, Nat.le_trans hde (by decide), Nat.le_trans hde (by decide), fun p1 xs1 H1 h1 t1 f1 => ?_⟩
      unfold t_L_code_5; refine st_seq ?_
      push_cast
      refine st_seq ?_
      push_cast [f1.tu _ _ ha, h1]
      have L1 : xs1.length = e.code.length := by rw [t1.length, List.length_map]
      refine ⟨v1, b + xs1.length + 2, .row s1, by simp only [Int.natCast_add]; rfl, ts1.tups f1.tu, by simp only [Un.dp]; omega, ok.2, by simp only [Un.cnt]; omega, fun p2 xs2 H2 h2 t2 f2 => ?_⟩
      have L2 : xs2.length = (codeL s1 (b + e.code.length + 2)).length := by rw [t2.length, List.length_map, L1]; rfl
      refine st_seq ?_
      push_cast [f2.keep _ _ h1 (by simp), h2]
      have B1 : xs1.length ≤ 1024 := by rw [L1]; exact Ex.len10 (Nat.le_trans hde (by decide))
      have B2 : xs2.length ≤ 700000 := by rw [L2]; exact code_bound (o := .row s1) ok.2 (by simp only [Un.cnt]; omega)
      refine ⟨(by simp only [List.length_cons, List.length_nil]; decide), fun q3 H3 A3 => ⟨(by simp only [List.length_cons, List.length_nil]; decide), fun q4 H4 A4 => ?_⟩⟩
      have f24 : Fr [] H2 H4 := A3.fr.al A4
      push_cast [A4.at_, (f2.trans f24).keep _ _ h1 (by simp)]
      refine ⟨big (by simp only [List.length_cons, List.length_nil]; omega), fun q5 H5 A5 => ⟨(by simp only [List.length_cons, List.length_nil]; decide), fun q6 H6 A6 => ⟨(by simp only [List.length_cons, List.length_nil]; decide), fun q7 H7 A7 => ?_⟩⟩⟩
      push_cast [A7.at_, A7.k (A6.k A5.at_)]
      refine ⟨big (by simp only [List.length_append, List.length_cons, List.length_nil]; omega), fun q8 H8 A8 => ?_⟩
      have f28 : Fr [] H2 H8 := (((f24.al A5).al A6).al A7).al A8
      push_cast [A8.at_, f28.keep _ _ h2 (by simp)]
      refine ⟨big (by simp only [List.length_append, List.length_cons, List.length_nil]; omega), fun q9 H9 A9 => ⟨(by simp only [List.length_cons, List.length_nil]; decide), fun q10 H10 A10 => ⟨(by simp only [List.length_cons, List.length_nil]; decide), fun q11 H11 A11 => ?_⟩⟩⟩
      push_cast [A11.at_, A11.k (A10.k A9.at_)]
      refine ⟨big (by simp only [List.length_append, List.length_cons, List.length_nil]; omega), fun q12 H12 A12 => ?_⟩
      have f212 : Fr [] H2 H12 := (((f28.al A9).al A10).al A11).al A12
      refine k _ _ _ A12.at_ ?_ ((f1.trans f2).trans f212)
      simp only [Un.code, Sm.code, List.map_append, List.map_cons, List.map_nil, Rw.d]
      have W3 : Tups H3 H12 := (((((((A4.tu.trans A5.tu).trans A6.tu).trans A7.tu).trans A8.tu).trans A9.tu).trans A10.tu).trans A11.tu).trans A12.tu
      refine TpL.append (TpL.append (TpL.append (TpL.append (.cons (.tup (W3 _ _ A3.at_) (.cons (.str _) .nil)) .nil) (t1.tups (f2.tu.trans f212.tu))) (.cons (.tup ((((((A7.tu.trans A8.tu).trans A9.tu).trans A10.tu).trans A11.tu).trans A12.tu) _ _ A6.at_) (.cons (.str _) (.cons ?_ .nil))) .nil)) ?_) (.cons (.tup ((A11.tu.trans A12.tu) _ _ A10.at_) (.cons (.str _) (.cons (.int _) .nil))) .nil)
      · rw [tp_int, L2, L1]; simp only [Int.natCast_add]; rfl
      · have := t2.tups f212.tu; rw [L1] at this; exact this
theorem rd_L_coded {K : PySem.W.Frag} {vs : List V} {H : Hp} {Q : VK} {E : XK} (h : sp_L_coded vs H Q E) : t_L_coded K { nx := fun _ H' => Q .non H', rt := Q } (start ["_"] vs) H := by
  obtain ⟨v, p, rfl, hv, ⟨ok, hd, hc⟩, k⟩ := h
  show t_L_coded K _ [some v] H
  unfold t_L_coded
  push_cast
  refine ⟨v, 0, .row p, rfl, hv, by simp only [Un.dp]; omega, ok, hc, fun a xs H1 h1 t1 f1 => ?_⟩
  push_cast
  refine ⟨(by simp only [List.length_cons, List.length_nil]; decide), fun q2 H2 A2 => ⟨(by simp only [List.length_cons, List.length_nil]; decide), fun q3 H3 A3 => ?_⟩⟩
  push_cast [A3.at_, A3.k (A2.k h1)]
  have B1 : xs.length ≤ 700000 := by rw [t1.length, List.length_map]; exact code_bound ok hc
  refine ⟨big (by simp only [List.length_cons, List.length_nil]; omega), fun q4 H4 A4 => ?_⟩
  push_cast [A4.at_]
  intro q5 H5 A5
  refine k _ _ (.tup A5.at_ ?_) ((((f1.al A2).al A3).al A4).al A5)
  unfold progC
  simp only [List.map_append, List.map_cons, List.map_nil]
  exact TpL.append ((((t1.tups A2.tu).tups A3.tu).tups A4.tu).tups A5.tu) (.cons (.tup (A5.k (A4.k (A3.k A2.at_))) (.cons (.str _) .nil)) .nil)

/-! states in the heap -/
/-! ### footprints -/
/-- what T holds stood in S, or is new -/
def Own (H : Hp) (S T : List Addr) : Prop := ∀ x ∈ T, x ∈ S ∨ H x = none
theorem Own.refl (H : Hp) (S : List Addr) : Own H S S := fun _ h => .inl h
theorem Fr.own {S T : List Addr} {H H1 H2 : Hp} (f : Fr S H H1) (o : Own H S T) (g : Fr T H1 H2) : Fr S H H2 := by
  refine ⟨fun b u h hb => g.keep b u (f.keep b u h hb) fun hT => ?_, fun b xs h => g.tups b xs (f.tups b xs h)⟩
  rcases o b hT with z | z
  · exact hb z
  · rw [z] at h; cases h
theorem Own.trans {S T U : List Addr} {H H1 : Hp} (a : Own H S T) (f : Fr S H H1) (b : Own H1 T U) : Own H S U := fun x hx => by
  rcases b x hx with h | h
  · exact a x h
  · by_cases hs : x ∈ S
    · exact .inl hs
    · exact .inr (f.free h hs)
theorem Own.mono {S S' T : List Addr} {H : Hp} (o : Own H S T) (h : ∀ x ∈ S, x ∈ S') : Own H S' T := fun x hx => (o x hx).imp_left (h x)
def Disj (S T : List Addr) : Prop := ∀ x ∈ S, x ∉ T
theorem Disj.symm {S T : List Addr} (d : Disj S T) : Disj T S := fun x hx hs => d x hs hx
/-- S stands in the heap, T moves on -/
theorem Disj.own {S T U : List Addr} {H : Hp} (d : Disj S T) (hS : ∀ x ∈ S, H x ≠ none) (o : Own H T U) : Disj S U := fun x hx hu => by
  rcases o x hu with h | h
  · exact d x hx h
  · exact hS x hx h
/-! ### states -/
def vls (l : List Vl) : List V := l.map Vl.v
def stF (na sk : Addr) (p : Nat) (l : Int) (sd : Addr) (la : V) : List (Str × V) := [("names", .ref na), ("stack", .ref sk), ("place", .int (p : Nat)), ("left", .int l), ("said", .ref sd), ("last", la)]
section
variable {na sk na' sk' sd sd' : Addr} {p p' : Nat} {l l' : Int} {la la' : V}
theorem st_names : (stF na sk p l sd la).lookup ("names" : Str) = some (.ref na) := rfl
theorem st_stack : (stF na sk p l sd la).lookup ("stack" : Str) = some (.ref sk) := rfl
theorem st_place : (stF na sk p l sd la).lookup ("place" : Str) = some (.int (p : Nat)) := rfl
theorem st_left : (stF na sk p l sd la).lookup ("left" : Str) = some (.int l) := rfl
theorem st_said : (stF na sk p l sd la).lookup ("said" : Str) = some (.ref sd) := rfl
theorem st_last : (stF na sk p l sd la).lookup ("last" : Str) = some la := rfl
theorem st_turn : (stF na sk p l sd la).lookup ("turn" : Str) = none := rfl
theorem st_stand : (stF na sk p l sd la).lookup ("stand" : Str) = none := rfl
theorem sp_stack : putF ("stack" : Str) (.ref sk') (stF na sk p l sd la) = stF na sk' p l sd la := rfl
theorem sp_place : putF ("place" : Str) (.int (p' : Nat)) (stF na sk p l sd la) = stF na sk p' l sd la := rfl
theorem sp_place1 : putF ("place" : Str) (.int ((p : Nat) + 1)) (stF na sk p l sd la) = stF na sk (p + 1) l sd la := rfl
theorem sp_left : putF ("left" : Str) (.int l') (stF na sk p l sd la) = stF na sk p l' sd la := rfl
theorem sp_last : putF ("last" : Str) la' (stF na sk p l sd la) = stF na sk p l sd la' := rfl
theorem st_len : (stF na sk p l sd la).length < 1000 := by show 6 < 1000; decide
end
/-- the state s at o: its dict, its lists -/
structure StAt (c : CA) (H : Hp) (o na sk sd : Addr) (s : MS) : Prop where
  ins : ∃ dx la, H o = some (.ins c.state dx (stF na sk s.place s.left sd la)) ∧ Tp H (lastD s.last) la
  nm : H na = some (.dK (kvs s.names))
  st : H sk = some (.lst (vls s.st.reverse))
  said : H sd = some (.lst (vls s.said))
  ne : sk ≠ sd
theorem StAt.there {c : CA} {H : Hp} {o na sk sd : Addr} {s : MS} (h : StAt c H o na sk sd s) : ∀ x ∈ [o, na, sk, sd], H x ≠ none := by
  obtain ⟨dx, la, h1, _⟩ := h.ins
  intro x hx
  simp only [List.mem_cons, List.not_mem_nil, or_false] at hx
  rcases hx with rfl | rfl | rfl | rfl
  · rw [h1]; simp
  · rw [h.nm]; simp
  · rw [h.st]; simp
  · rw [h.said]; simp
theorem StAt.keep {c : CA} {H H' : Hp} {o na sk sd : Addr} {s : MS} {S : List Addr} (h : StAt c H o na sk sd s) (f : Fr S H H') (d : Disj [o, na, sk, sd] S) : StAt c H' o na sk sd s := by
  obtain ⟨dx, la, h1, h2⟩ := h.ins
  exact ⟨⟨dx, la, f.keep _ _ h1 (d _ (by simp)), h2.tups f.tu⟩, f.keep _ _ h.nm (d _ (by simp)), f.keep _ _ h.st (d _ (by simp)), f.keep _ _ h.said (d _ (by simp)), h.ne⟩
theorem StAt.al {c : CA} {H H' : Hp} {o na sk sd p : Addr} {s : MS} {u : HO} (h : StAt c H o na sk sd s) (a : Al H p u H') : StAt c H' o na sk sd s := h.keep (a.fr (S := [])) (fun _ _ z => by cases z)
/-- what a state's step leaves -/
def sp_State___init__ (c : CA) : Sp := fun vs H Q _ => ∃ (o dx a : Addr) (m : Nms) (l : Int), vs = [.ref o, .ref a, .int l] ∧ H o = some (.ins c.state dx []) ∧ H a = some (.dK (kvs m)) ∧ a ≠ o ∧
  ∀ na sk sd H', H na = none → H sk = none → H sd = none → StAt c H' o na sk sd ⟨m, [], 0, l, [], none⟩ → Fr [o] H H' → Q .non H'
theorem len_State___init__ {c : CA} (vs : List V) (H : Hp) (Q : VK) (E : XK) (h : sp_State___init__ c vs H Q E) : vs.length = 3 := by
  obtain ⟨_, _, _, _, _, rfl, _⟩ := h
  rfl
def sp_State_turn (c : CA) : Sp := fun vs H Q _ => ∃ (o na sk sd : Addr) (s : MS), vs = [.ref o] ∧ StAt c H o na sk sd s ∧
  ∀ H', StAt c H' o na sk sd { s with left := s.left - 1, last := if s.left - 1 < 0 then some .dry else s.last } → Fr [o] H H' → Q (.bl (decide (0 ≤ s.left - 1))) H'
theorem len_State_turn {c : CA} (vs : List V) (H : Hp) (Q : VK) (E : XK) (h : sp_State_turn c vs H Q E) : vs.length = 1 := by
  obtain ⟨_, _, _, _, _, rfl, _⟩ := h
  rfl
def sp_work (c : CA) : Sp := fun vs H Q _ => ∃ (o na sk sd : Addr) (s : MS) (g : Sg) (x y : Vl) (r : List Vl), vs = [.ref o, .str g.s] ∧ StAt c H o na sk sd s ∧ s.st = y :: x :: r ∧ x.ok ∧ y.ok ∧ r.length < 8000000 ∧
  ∀ H' sk', StAt c H' o na sk' sd (match wk g x y with
    | some z => { s with st := z :: r, place := s.place + 1 }
    | none => { s with last := some (.mixed s.place) }) → (sk' = sk ∨ H sk' = none) → Fr [o] H H' → Q .non H'
theorem len_work {c : CA} (vs : List V) (H : Hp) (Q : VK) (E : XK) (h : sp_work c vs H Q E) : vs.length = 2 := by
  obtain ⟨_, _, _, _, _, _, _, _, _, rfl, _⟩ := h
  rfl
def sp_do_row (c : CA) : Sp := fun vs H Q _ => ∃ (v : V) (code : List Rw) (o na sk sd : Addr) (s : MS), vs = [v, .ref o] ∧ Tp H (rowsD code) v ∧ StAt c H o na sk sd s ∧ s.ok ∧ Fit code s ∧ s.st.length < 8000000 ∧ s.said.length < 8000000 ∧
  ∀ H' sk', StAt c H' o na sk' sd (step code s) → (sk' = sk ∨ H sk' = none) → Fr [o, na, sk, sd] H H' → Q .non H'
theorem len_do_row {c : CA} (vs : List V) (H : Hp) (Q : VK) (E : XK) (h : sp_do_row c vs H Q E) : vs.length = 2 := by
  obtain ⟨_, _, _, _, _, _, _, rfl, _⟩ := h
  rfl
/-! ### the law's own state: a dict -/
def lsK (nb : Addr) (l : Int) (p : Nat) (hb sb : Addr) (la : V) : List (Key × V) := [(.inr (wd 31), .ref nb), (.inr (wd 33), .int l), (.inr (wd 30), .int (p : Nat)), (.inr (wd 32), .ref hb), (.inr (wd 34), .ref sb), (.inr (wd 35), la)]
structure LsAt (H : Hp) (d nb hb sb : Addr) (s : MS) : Prop where
  dic : ∃ la, H d = some (.dK (lsK nb s.left s.place hb sb la)) ∧ Tp H (lastD s.last) la
  nm : H nb = some (.dK (kvs s.names))
  st : H hb = some (.lst (vls s.st.reverse))
  said : H sb = some (.lst (vls s.said))
  ne : nb ≠ d
theorem LsAt.keep {H H' : Hp} {d nb hb sb : Addr} {s : MS} {S : List Addr} (h : LsAt H d nb hb sb s) (f : Fr S H H') (dj : Disj [d, nb, hb, sb] S) : LsAt H' d nb hb sb s := by
  obtain ⟨la, h1, h2⟩ := h.dic
  exact ⟨⟨la, f.keep _ _ h1 (dj _ (by simp)), h2.tups f.tu⟩, f.keep _ _ h.nm (dj _ (by simp)), f.keep _ _ h.st (dj _ (by simp)), f.keep _ _ h.said (dj _ (by simp)), h.ne⟩
theorem LsAt.there {H : Hp} {d nb hb sb : Addr} {s : MS} (h : LsAt H d nb hb sb s) : ∀ x ∈ [d, nb, hb, sb], H x ≠ none := by
  obtain ⟨la, h1, _⟩ := h.dic
  intro x hx
  simp only [List.mem_cons, List.not_mem_nil, or_false] at hx
  rcases hx with rfl | rfl | rfl | rfl
  · rw [h1]; simp
  · rw [h.nm]; simp
  · rw [h.st]; simp
  · rw [h.said]; simp
def sp_L_step : Sp := fun vs H Q _ => ∃ (v : V) (code : List Rw) (d nb hb sb : Addr) (s : MS), vs = [v, .ref d] ∧ Tp H (rowsD code) v ∧ LsAt H d nb hb sb s ∧ s.ok ∧ Fit code s ∧ s.st.length < 8000000 ∧ s.said.length < 8000000 ∧
  ∀ H' nb' hb' sb', LsAt H' d nb' hb' sb' (step code s) → Own H [d, nb, hb, sb] [d, nb', hb', sb'] → Fr [d] H H' → Q .non H'
theorem len_L_step (vs : List V) (H : Hp) (Q : VK) (E : XK) (h : sp_L_step vs H Q E) : vs.length = 2 := by
  obtain ⟨_, _, _, _, _, _, _, rfl, _⟩ := h
  rfl
def sp_L_begun : Sp := fun vs H Q _ => ∃ (a : Addr) (m : Nms) (l : Int) (p : Nat), vs = [.ref a, .int l, .int (p : Nat)] ∧ H a = some (.dK (kvs m)) ∧
  ∀ d nb hb sb H', H d = none → H nb = none → H hb = none → H sb = none → LsAt H' d nb hb sb ⟨m, [], p, l, [], none⟩ → Fr [] H H' → Q (.ref d) H'
theorem len_L_begun (vs : List V) (H : Hp) (Q : VK) (E : XK) (h : sp_L_begun vs H Q E) : vs.length = 3 := by
  obtain ⟨_, _, _, _, rfl, _⟩ := h
  rfl
def sp_L_same (c : CA) : Sp := fun vs H Q _ => ∃ (o na sk sd d nb hb sb : Addr) (s : MS), vs = [.ref d, .ref o] ∧ StAt c H o na sk sd s ∧ LsAt H d nb hb sb s ∧ s.ok ∧ Q (.bl true) H
theorem len_L_same {c : CA} (vs : List V) (H : Hp) (Q : VK) (E : XK) (h : sp_L_same c vs H Q E) : vs.length = 2 := by
  obtain ⟨_, _, _, _, _, _, _, _, _, rfl, _⟩ := h
  rfl
def sp_L_names : Sp := fun vs H Q _ => ∃ (b l : Addr), vs = [.ref b] ∧ BoxAt H b l ∧ ∀ a m H', H a = none → H' a = some (.dK (kvs m)) → NmOk m → BoxAt H' b l → Fr [b, l] H H' → Q (.ref a) H'
theorem len_L_names (vs : List V) (H : Hp) (Q : VK) (E : XK) (h : sp_L_names vs H Q E) : vs.length = 1 := by
  obtain ⟨_, _, rfl, _⟩ := h
  rfl

/-- State.__init__ from 4 -/
def t_State___init___4 (K : PySem.W.Frag) (c : CA) : TS :=
  (tSeq (xSet c.state (tVar 0) (xLst tNil) ("said" : Str))
    (xSet c.state (tVar 0) (tC .non) ("last" : Str)))

/-- State.__init__ from 3 -/
def t_State___init___3 (K : PySem.W.Frag) (c : CA) : TS :=
  tSeq (xSet c.state (tVar 0) (tVar 2) ("left" : Str)) (t_State___init___4 K c)

/-- State.__init__ from 2 -/
def t_State___init___2 (K : PySem.W.Frag) (c : CA) : TS :=
  tSeq (xSet c.state (tVar 0) (tC (.int 0)) ("place" : Str)) (t_State___init___3 K c)

/-- State.__init__ from 1 -/
def t_State___init___1 (K : PySem.W.Frag) (c : CA) : TS :=
  tSeq (xSet c.state (tVar 0) (xLst tNil) ("stack" : Str)) (t_State___init___2 K c)

/-- State.__init__ -/
def t_State___init__ (K : PySem.W.Frag) (c : CA) : TS :=
  tSeq (xSet c.state (tVar 0) (tCB rDctD (tCons (tVar 1) tNil)) ("names" : Str)) (t_State___init___1 K c)

/-- State.turn from 1 -/
def t_State_turn_1 (K : PySem.W.Frag) (c : CA) : TS :=
  (tSeq (tIfS (tTest (tOp (rI0 fun i j => .bl (decide (i < j))) (xFld c.state (tVar 0) ("left" : Str)) (tC (.int 0)))) (xSet c.state (tVar 0) (xTup (tCons (tC (.str (wd 27))) tNil)) ("last" : Str)) tNext)
    (tRet (tOp (rI0 fun i j => .bl (decide (j ≤ i))) (xFld c.state (tVar 0) ("left" : Str)) (tC (.int 0)))))

/-- State.turn -/
def t_State_turn (K : PySem.W.Frag) (c : CA) : TS :=
  tSeq (xSet c.state (tVar 0) (tOp (rI0 fun i j => .int (i - j)) (xFld c.state (tVar 0) ("left" : Str)) (tC (.int 1))) ("left" : Str)) (t_State_turn_1 K c)

/-- work from 2 -/
def t_work_2 (K : PySem.W.Frag) (c : CA) : TS :=
  (tSeq (xSet c.state (tVar 0) (tOp rCt (tSl rSL (xFld c.state (tVar 0) ("stack" : Str)) tNoPart (tPart (tUn (rU fun i => .int (-i)) (tC (.int 2))))) (xLst (tCons (tVar 2) tNil))) ("stack" : Str))
    (xSet c.state (tVar 0) (tOp (rI0 fun i j => .int (i + j)) (xFld c.state (tVar 0) ("place" : Str)) (tC (.int 1))) ("place" : Str)))

/-- work from 1 -/
def t_work_1 (K : PySem.W.Frag) (c : CA) : TS :=
  tSeq (tIfS (tTest (tOp rIsN (tVar 2) (tC .non))) (tSeq (xSet c.state (tVar 0) (xTup (tCons (tC (.str (wd 28))) (tCons (xFld c.state (tVar 0) ("place" : Str)) tNil))) ("last" : Str))
    tRetN) tNext) (t_work_2 K c)

/-- work -/
def t_work (K : PySem.W.Frag) (c : CA) : TS :=
  tSeq (tAsg (tCall sp_worked [] E0 (tCons (tVar 1) (tCons (tOp rXL (xFld c.state (tVar 0) ("stack" : Str)) (tUn (rU fun i => .int (-i)) (tC (.int 2)))) (tCons (tOp rXL (xFld c.state (tVar 0) ("stack" : Str)) (tUn (rU fun i => .int (-i)) (tC (.int 1)))) tNil)))) (gName 2)) (t_work_1 K c)

/-- do_row from 6 -/
def t_do_row_6 (K : PySem.W.Frag) (c : CA) : TS :=
  (tSeq (tIfS (tOr (tTest (tOp rEq (tVar 3) (tC (.str (wd 0))))) (tTest (tOp rEq (tVar 3) (tC (.str (wd 1)))))) (tDrop (tApp (xFld c.state (tVar 1) ("stack" : Str)) (tOp rXT (tVar 2) (tC (.int 1))))) (tIfS (tTest (tOp rEq (tVar 3) (tC (.str (wd 2))))) (tDrop (tApp (xFld c.state (tVar 1) ("stack" : Str)) (xGet2S (xFld c.state (tVar 1) ("names" : Str)) (tOp rXT (tVar 2) (tC (.int 1))) (tC (.int 0))))) (tIfS (tTest (tOp rEq (tVar 3) (tC (.str (wd 8))))) (xPutS (xFld c.state (tVar 1) ("names" : Str)) (tOp rXT (tVar 2) (tC (.int 1))) (tPopL (xFld c.state (tVar 1) ("stack" : Str)))) (tIfS (tTest (tOp rEq (tVar 3) (tC (.str (wd 7))))) (tDrop (tApp (xFld c.state (tVar 1) ("said" : Str)) (tPopL (xFld c.state (tVar 1) ("stack" : Str))))) tNext))))
    (xSet c.state (tVar 1) (tOp (rI0 fun i j => .int (i + j)) (xFld c.state (tVar 1) ("place" : Str)) (tC (.int 1))) ("place" : Str)))

/-- do_row from 5 -/
def t_do_row_5 (K : PySem.W.Frag) (c : CA) : TS :=
  tSeq (tIfS (tOr (tTest (tOp rEq (tVar 3) (tC (.str (wd 10))))) (tAnd (tTest (tOp rEq (tVar 3) (tC (.str (wd 9))))) (tNot (tB (tCall sp_is_so [] E0 (tCons (tPopL (xFld c.state (tVar 1) ("stack" : Str))) tNil)))))) (tSeq (xSet c.state (tVar 1) (tOp rXT (tVar 2) (tC (.int 1))) ("place" : Str))
    tRetN) tNext) (t_do_row_6 K c)

/-- do_row from 4 -/
def t_do_row_4 (K : PySem.W.Frag) (c : CA) : TS :=
  tSeq (tIfS (tAnd (tTest (tOp rEq (tVar 3) (tC (.str (wd 11))))) (tNot (tB (xMeth c.state ("turn" : Str) (sp_State_turn c) (tVar 1) tNil)))) tRetN tNext) (t_do_row_5 K c)

/-- do_row from 3 -/
def t_do_row_3 (K : PySem.W.Frag) (c : CA) : TS :=
  tSeq (tIfS (tTest (tOp rEq (tVar 3) (tC (.str (wd 12))))) (tSeq (xSet c.state (tVar 1) (xTup (tCons (tC (.str (wd 26))) tNil)) ("last" : Str))
    tRetN) tNext) (t_do_row_4 K c)

/-- do_row from 2 -/
def t_do_row_2 (K : PySem.W.Frag) (c : CA) : TS :=
  tSeq (tIfS (tTest (tOp (rInT false) (tVar 3) (xTup (tCons (tC (.str (wd 3))) (tCons (tC (.str (wd 4))) (tCons (tC (.str (wd 5))) (tCons (tC (.str (wd 6))) tNil))))))) (tSeq (tDrop (tCall (sp_work c) [] E0 (tCons (tVar 1) (tCons (tVar 3) tNil))))
    tRetN) tNext) (t_do_row_3 K c)

/-- do_row from 1 -/
def t_do_row_1 (K : PySem.W.Frag) (c : CA) : TS :=
  tSeq (tAsg (tOp rXT (tVar 2) (tC (.int 0))) (gName 3)) (t_do_row_2 K c)

/-- do_row -/
def t_do_row (K : PySem.W.Frag) (c : CA) : TS :=
  tSeq (tAsg (tOp rXT (tVar 0) (xFld c.state (tVar 1) ("place" : Str))) (gName 2)) (t_do_row_1 K c)

/-! ### the end of a list -/
theorem atI_last1 {f : Vl → V} {y : Vl} {r : List Vl} : atI ((y :: r).reverse.map f) (-1) = some (f y) := by
  have h : ((y :: r).reverse.map f)[r.length]? = some (f y) := by simp
  unfold atI ixN
  simp only [List.length_map, List.length_reverse, List.length_cons]
  rw [if_neg (by omega), if_pos (by omega)]
  simp only [Option.bind_some]
  rw [show ((-1 : Int) + ((r.length + 1 : Nat) : Int)).toNat = r.length by omega]
  exact h
theorem atI_last2 {f : Vl → V} {x y : Vl} {r : List Vl} : atI ((y :: x :: r).reverse.map f) (-2) = some (f x) := by
  have h : ((y :: x :: r).reverse.map f)[r.length]? = some (f x) := by simp
  unfold atI ixN
  simp only [List.length_map, List.length_reverse, List.length_cons]
  rw [if_neg (by omega), if_pos (by omega)]
  simp only [Option.bind_some]
  rw [show ((-2 : Int) + ((r.length + 1 + 1 : Nat) : Int)).toNat = r.length by omega]
  exact h
theorem cut_last1 {f : Vl → V} {y : Vl} {r : List Vl} : cutV ((y :: r).reverse.map f) none (some (-1)) = r.reverse.map f := by
  unfold cutV HT.sIx
  simp only [List.length_map, List.length_reverse, List.length_cons, List.drop_zero, Nat.sub_zero]
  rw [if_pos (by decide), show ((-1 : Int) + ((r.length + 1 : Nat) : Int)).toNat = r.length by omega]
  simp
theorem cut_last2 {f : Vl → V} {x y : Vl} {r : List Vl} : cutV ((y :: x :: r).reverse.map f) none (some (-2)) = r.reverse.map f := by
  unfold cutV HT.sIx
  simp only [List.length_map, List.length_reverse, List.length_cons, List.drop_zero, Nat.sub_zero]
  rw [if_pos (by decide), show ((-2 : Int) + ((r.length + 1 + 1 : Nat) : Int)).toNat = r.length by omega]
  simp
theorem get_last {f : Vl → V} {y : Vl} {r : List Vl} : ((y :: r).reverse.map f)[((y :: r).reverse.map f).length - 1]? = some (f y) := by simp
theorem drop_last {f : Vl → V} {y : Vl} {r : List Vl} : ((y :: r).reverse.map f).dropLast = r.reverse.map f := by simp
theorem push_last {f : Vl → V} {y : Vl} {r : List Vl} : r.reverse.map f ++ [f y] = (y :: r).reverse.map f := by simp
theorem lt1000 {n : Nat} (h : Nat.ble n 999 = true) : n < 1000 := Nat.lt_succ_of_le (Nat.le_of_ble_eq_true h)
theorem rd_State___init__ {K : PySem.W.Frag} {c : CA} {vs : List V} {H : Hp} {Q : VK} {E : XK} (h : sp_State___init__ c vs H Q E) : t_State___init__ K c { nx := fun _ H' => Q .non H', rt := Q } (start ["_", "_", "_"] vs) H := by
  obtain ⟨o, dx, a, m, l, rfl, ho, ha, hne, k⟩ := h
  show t_State___init__ K c _ [some (.ref o), some (.ref a), some (.int l)] H
  unfold t_State___init__; refine st_seq ?_
  push_cast [ha]
  intro na H1 A1
  replace ho := A1.k ho
  push_cast [ho]
  refine ⟨lt1000 rfl, fun H2 M2 => ?_⟩
  have nn : na ≠ o := ne_of A1.at_ ho (by simp)
  have hna := M2.k A1.at_ nn
  replace ho := M2.at_
  unfold t_State___init___1; refine st_seq ?_
  push_cast
  refine ⟨(by simp only [List.length_cons, List.length_nil]; decide), fun sk H3 A3 => ?_⟩
  replace ho := A3.k ho; replace hna := A3.k hna
  have hsk := A3.at_
  push_cast [ho]
  refine ⟨lt1000 rfl, fun H4 M4 => ?_⟩
  replace hna := M4.k hna (ne_of hna ho (by simp)); replace hsk := M4.k hsk (ne_of hsk ho (by simp)); replace ho := M4.at_
  unfold t_State___init___2; refine st_seq ?_
  push_cast [ho]
  refine ⟨lt1000 rfl, fun H5 M5 => ?_⟩
  replace hna := M5.k hna (ne_of hna ho (by simp)); replace hsk := M5.k hsk (ne_of hsk ho (by simp)); replace ho := M5.at_
  unfold t_State___init___3; refine st_seq ?_
  push_cast [ho]
  refine ⟨lt1000 rfl, fun H6 M6 => ?_⟩
  replace hna := M6.k hna (ne_of hna ho (by simp)); replace hsk := M6.k hsk (ne_of hsk ho (by simp)); replace ho := M6.at_
  unfold t_State___init___4; refine st_seq ?_
  push_cast
  refine ⟨(by simp only [List.length_cons, List.length_nil]; decide), fun sd H7 A7 => ?_⟩
  have nsd : sk ≠ sd := ne_of_none hsk A7.new
  replace ho := A7.k ho; replace hna := A7.k hna; replace hsk := A7.k hsk
  have hsd := A7.at_
  push_cast [ho]
  refine ⟨lt1000 rfl, fun H8 M8 => ?_⟩
  replace hna := M8.k hna (ne_of hna ho (by simp)); replace hsk := M8.k hsk (ne_of hsk ho (by simp)); replace hsd := M8.k hsd (ne_of hsd ho (by simp)); replace ho := M8.at_
  push_cast [ho]
  refine ⟨lt1000 rfl, fun H9 M9 => ?_⟩
  replace hna := M9.k hna (ne_of hna ho (by simp)); replace hsk := M9.k hsk (ne_of hsk ho (by simp)); replace hsd := M9.k hsd (ne_of hsd ho (by simp)); replace ho := M9.at_
  have f1 : Fr [o] H H1 := A1.fr
  have f2 := f1.mu M2 (by simp)
  have f6 := (((f2.al A3).mu M4 (by simp)).mu M5 (by simp)).mu M6 (by simp)
  have f9 := ((f6.al A7).mu M8 (by simp)).mu M9 (by simp)
  have no : ∀ x, x ≠ o → x ∉ [o] := fun x h => by simpa using h
  refine k na sk sd H9 A1.new (f2.free A3.new (no _ (ne_of hsk ho (by simp)))) (f6.free A7.new (no _ (ne_of hsd ho (by simp)))) ⟨⟨dx, .non, ho, by simp only [lastD, tp_non]⟩, hna, hsk, hsd, nsd⟩ f9
theorem rd_State_turn {K : PySem.W.Frag} {c : CA} {vs : List V} {H : Hp} {Q : VK} {E : XK} (h : sp_State_turn c vs H Q E) : t_State_turn K c { nx := fun _ H' => Q .non H', rt := Q } (start ["_"] vs) H := by
  obtain ⟨o, na, sk, sd, s, rfl, S, k⟩ := h
  show t_State_turn K c _ [some (.ref o)] H
  obtain ⟨⟨dx, la, ho, hla⟩, hna, hsk, hsd, ne⟩ := S
  unfold t_State_turn; refine st_seq ?_
  push_cast [ho, st_left]
  refine ⟨st_len, fun H1 M1 => ?_⟩
  replace hna := M1.k hna (ne_of hna ho (by simp)); replace hsk := M1.k hsk (ne_of hsk ho (by simp)); replace hsd := M1.k hsd (ne_of hsd ho (by simp)); replace ho := M1.at_
  replace hla := hla.tups M1.tu
  rw [sp_left] at ho
  unfold t_State_turn_1; refine st_seq ?_
  push_cast [ho, st_left]
  refine i2 (fun hl => ?_) fun hl => ?_
  · refine ⟨(by simp only [List.length_cons, List.length_nil]; decide), fun p H2 A2 => ?_⟩
    replace ho := A2.k ho; replace hna := A2.k hna; replace hsk := A2.k hsk; replace hsd := A2.k hsd
    have hp := A2.at_
    push_cast [ho]
    refine ⟨st_len, fun H3 M3 => ?_⟩
    replace hna := M3.k hna (ne_of hna ho (by simp)); replace hsk := M3.k hsk (ne_of hsk ho (by simp)); replace hsd := M3.k hsd (ne_of hsd ho (by simp)); replace hp := M3.k hp (ne_of hp ho (by simp)); replace ho := M3.at_
    rw [sp_last] at ho
    push_cast [ho, st_left]
    refine k H3 ⟨⟨dx, _, ho, ?_⟩, hna, hsk, hsd, ne⟩ (((M1.fr (by simp)).al A2).mu M3 (by simp))
    rw [if_pos hl]
    exact .tup hp (.cons (.str _) .nil)
  · refine k H1 ⟨⟨dx, la, ho, ?_⟩, hna, hsk, hsd, ne⟩ (M1.fr (by simp))
    rw [if_neg hl]
    exact hla
theorem rd_work {K : PySem.W.Frag} {c : CA} {vs : List V} {H : Hp} {Q : VK} {E : XK} (h : sp_work c vs H Q E) : t_work K c { nx := fun _ H' => Q .non H', rt := Q } (start ["_", "_", "_"] vs) H := by
  obtain ⟨o, na, sk, sd, s, g, x, y, r, rfl, S, es, hx, hy, hl, k⟩ := h
  show t_work K c _ [some (.ref o), some (.str g.s), none] H
  obtain ⟨⟨dx, la, ho, hla⟩, hna, hsk, hsd, ne⟩ := S
  rw [es] at hsk
  unfold vls at hsk
  unfold t_work; refine st_seq ?_
  push_cast [ho, st_stack, hsk, Int.reduceNeg, atI_last1, atI_last2]
  refine ⟨g, x, y, rfl, hx, hy, fun H1 f1 => ?_⟩
  have keep : ∀ a u, H a = some u → H1 a = some u := fun a u h => f1.keep a u h (by simp)
  replace ho := keep _ _ ho
  replace hna := keep _ _ hna
  replace hsk := keep _ _ hsk
  replace hsd := keep _ _ hsd
  replace hla := hla.tups f1.tu
  unfold t_work_1; refine st_seq ?_
  cases e : wk g x y with
  | none =>
    simp only [e] at k
    push_cast [ov, e]
    refine st_seq ?_
    push_cast [ho, st_place]
    refine ⟨(by simp only [List.length_cons, List.length_nil]; decide), fun p H2 A2 => ?_⟩
    replace ho := A2.k ho; replace hna := A2.k hna; replace hsk := A2.k hsk; replace hsd := A2.k hsd
    have hp := A2.at_
    push_cast [ho]
    refine ⟨st_len, fun H3 M3 => ?_⟩
    replace hna := M3.k hna (ne_of hna ho (by simp)); replace hsk := M3.k hsk (ne_of hsk ho (by simp)); replace hsd := M3.k hsd (ne_of hsd ho (by simp)); replace hp := M3.k hp (ne_of hp ho (by simp)); replace ho := M3.at_
    rw [sp_last] at ho
    exact k H3 sk ⟨⟨dx, _, ho, .tup hp (.cons (.str _) (.cons (.int _) .nil))⟩, hna, by rw [es]; exact hsk, hsd, ne⟩ (.inl rfl) (((f1.sub0).al A2).mu M3 (by simp))
  | some z =>
    simp only [e] at k
    have nz : (z.v = V.non) = False := by cases z <;> simp [Vl.v]
    push_cast [ov, nz]
    unfold t_work_2; refine st_seq ?_
    push_cast [ho, st_stack, hsk, Int.reduceNeg, cut_last2]
    intro p H2 A2
    refine ⟨(by simp only [List.length_cons, List.length_nil]; decide), fun q H3 A3 => ?_⟩
    replace ho := A2.k ho; replace hna := A2.k hna; replace hsk := A2.k hsk; replace hsd := A2.k hsd
    have hp := A2.at_
    replace ho := A3.k ho; replace hna := A3.k hna; replace hsk := A3.k hsk; replace hsd := A3.k hsd; replace hp := A3.k hp
    push_cast [hp, A3.at_]
    refine ⟨big (by simp only [List.length_map, List.length_reverse, List.length_cons, List.length_nil]; omega), fun q4 H4 A4 => ?_⟩
    have nq : H q4 = none := ((f1.al A2).al A3).free A4.new (by simp)
    have nd : q4 ≠ sd := fun e => ne_of_none hsd A4.new e.symm
    replace ho := A4.k ho; replace hna := A4.k hna; replace hsk := A4.k hsk; replace hsd := A4.k hsd
    have hq := A4.at_
    push_cast [ho]
    refine ⟨st_len, fun H5 M5 => ?_⟩
    replace hna := M5.k hna (ne_of hna ho (by simp)); replace hsk := M5.k hsk (ne_of hsk ho (by simp)); replace hsd := M5.k hsd (ne_of hsd ho (by simp)); replace hq := M5.k hq (ne_of hq ho (by simp)); replace ho := M5.at_
    rw [sp_stack] at ho
    push_cast [ho, st_place]
    refine ⟨st_len, fun H6 M6 => ?_⟩
    replace hna := M6.k hna (ne_of hna ho (by simp)); replace hsk := M6.k hsk (ne_of hsk ho (by simp)); replace hsd := M6.k hsd (ne_of hsd ho (by simp)); replace hq := M6.k hq (ne_of hq ho (by simp)); replace ho := M6.at_
    rw [sp_place1] at ho
    rw [push_last] at hq
    refine k H6 q4 ⟨⟨dx, la, ho, ((((hla.tups A2.tu).tups A3.tu).tups A4.tu).tups M5.tu).tups M6.tu⟩, hna, hq, hsd, nd⟩ (.inr nq) ((((((f1.sub0).al A2).al A3).al A4).mu M5 (by simp)).mu M6 (by simp))
theorem Fit.at_ {code : List Rw} {s : MS} {H : Hp} {v : V} (f : Fit code s) (t : Tp H (rowsD code) v) : ∃ a rows r y, v = .ref a ∧ H a = some (.tup rows) ∧ atI rows (s.place : Int) = some y ∧ code[s.place]? = some r ∧ Tp H r.d y ∧ r.need ≤ s.st.length ∧ r.okv := by
  obtain ⟨r, h1, h2, h3⟩ := f.row
  unfold rowsD at t
  rw [tp_tup] at t
  obtain ⟨a, xs, rfl, ha, hx⟩ := t
  obtain ⟨y, hy, ty⟩ := hx.get (i := s.place) (d := r.d) (by rw [List.getElem?_map, h1]; rfl)
  exact ⟨a, xs, r, y, rfl, ha, atI_nat hy, h1, ty, h2, h3⟩
theorem tp1 {H : Hp} {a : Str} {v : V} (h : Tp H (.tuple [.str a]) v) : ∃ p, v = .ref p ∧ H p = some (.tup [.str a]) := by
  simp only [tp_tup, tpl_cons, tpl_nil, tp_str] at h
  obtain ⟨p, xs, rfl, hp, _, r1, rfl, rfl, rfl⟩ := h
  exact ⟨p, rfl, hp⟩
theorem tp2i {H : Hp} {a : Str} {i : Int} {v : V} (h : Tp H (.tuple [.str a, .int i]) v) : ∃ p, v = .ref p ∧ H p = some (.tup [.str a, .int i]) := by
  simp only [tp_tup, tpl_cons, tpl_nil, tp_str, tp_int] at h
  obtain ⟨p, xs, rfl, hp, _, r1, rfl, rfl, _, r2, rfl, rfl, rfl⟩ := h
  exact ⟨p, rfl, hp⟩
theorem tp2s {H : Hp} {a i : Str} {v : V} (h : Tp H (.tuple [.str a, .str i]) v) : ∃ p, v = .ref p ∧ H p = some (.tup [.str a, .str i]) := by
  simp only [tp_tup, tpl_cons, tpl_nil, tp_str, tp_int] at h
  obtain ⟨p, xs, rfl, hp, _, r1, rfl, rfl, _, r2, rfl, rfl, rfl⟩ := h
  exact ⟨p, rfl, hp⟩
theorem getD_v (m : Nms) (x : Str) : (Option.map Vl.v (nget m x)).getD (.int 0) = (ngetD m x).v := by
  unfold ngetD
  cases nget m x <;> rfl
theorem vls_snoc (l : List Vl) (y : Vl) : vls l ++ [y.v] = vls (l ++ [y]) := by simp [vls]
theorem rd_do_row {K : PySem.W.Frag} {c : CA} {vs : List V} {H : Hp} {Q : VK} {E : XK} (h : sp_do_row c vs H Q E) : t_do_row K c { nx := fun _ H' => Q .non H', rt := Q } (start ["_", "_", "_", "_"] vs) H := by
  obtain ⟨v, code, o, na, sk, sd, s, rfl, hv, S, ok, fit, l1, l2, k⟩ := h
  show t_do_row K c _ [some v, some (.ref o), none, none] H
  have S0 := S
  obtain ⟨⟨dx, la, ho, hla⟩, hna, hsk, hsd, ne⟩ := S
  obtain ⟨ca, rows, r, y, rfl, hca, hix, hr, ty, hn, hok⟩ := fit.at_ hv
  rw [step_at hr] at k
  unfold stepR at k
  have nl := ok.nm.len
  cases r with
  | num n =>
    obtain ⟨ra, rfl, hra⟩ := tp2i ty
    unfold t_do_row; refine st_seq ?_
    push_cast [hca, ho, st_place, hix]
    unfold t_do_row_1; refine st_seq ?_
    push_cast [hra]
    unfold t_do_row_2; refine st_seq ?_
    push_cast
    refine ⟨(by simp only [List.length_cons, List.length_nil]; decide), fun p H1 A1 => ?_⟩
    push_cast [A1.at_]
    replace ho := A1.k ho; replace hna := A1.k hna; replace hsk := A1.k hsk; replace hsd := A1.k hsd; replace hra := A1.k hra
    replace hla := hla.tups A1.tu
    unfold t_do_row_3; refine st_seq ?_
    push_cast
    unfold t_do_row_4; refine st_seq ?_
    push_cast
    unfold t_do_row_5; refine st_seq ?_
    push_cast
    unfold t_do_row_6; refine st_seq ?_
    push_cast [ho, st_stack, hsk, hra]
    refine ⟨bigL (by simp [vls]; omega), fun H2 M2 => ?_⟩
    replace hsd := M2.k hsd ne.symm
    replace ho := M2.k ho (ne_of ho hsk (by simp)); replace hna := M2.k hna (ne_of hna hsk (by simp)); replace hsk := M2.at_
    push_cast [ho, st_place]
    refine ⟨st_len, fun H3 M3 => ?_⟩
    replace hna := M3.k hna (ne_of hna ho (by simp)); replace hsk := M3.k hsk (ne_of hsk ho (by simp)); replace hsd := M3.k hsd (ne_of hsd ho (by simp)); replace ho := M3.at_
    rw [sp_place1] at ho
    exact k H3 sk ⟨⟨dx, la, ho, (hla.tups M2.tu).tups M3.tu⟩, hna, by rw [hsk]; simp [vls, Vl.v], hsd, ne⟩ (.inl rfl) ((A1.fr.mu M2 (by simp)).mu M3 (by simp))
  | text n =>
    obtain ⟨ra, rfl, hra⟩ := tp2s ty
    unfold t_do_row; refine st_seq ?_
    push_cast [hca, ho, st_place, hix]
    unfold t_do_row_1; refine st_seq ?_
    push_cast [hra]
    unfold t_do_row_2; refine st_seq ?_
    push_cast
    refine ⟨(by simp only [List.length_cons, List.length_nil]; decide), fun p H1 A1 => ?_⟩
    push_cast [A1.at_]
    replace ho := A1.k ho; replace hna := A1.k hna; replace hsk := A1.k hsk; replace hsd := A1.k hsd; replace hra := A1.k hra
    replace hla := hla.tups A1.tu
    unfold t_do_row_3; refine st_seq ?_
    push_cast
    unfold t_do_row_4; refine st_seq ?_
    push_cast
    unfold t_do_row_5; refine st_seq ?_
    push_cast
    unfold t_do_row_6; refine st_seq ?_
    push_cast [ho, st_stack, hsk, hra]
    refine ⟨bigL (by simp [vls]; omega), fun H2 M2 => ?_⟩
    replace hsd := M2.k hsd ne.symm
    replace ho := M2.k ho (ne_of ho hsk (by simp)); replace hna := M2.k hna (ne_of hna hsk (by simp)); replace hsk := M2.at_
    push_cast [ho, st_place]
    refine ⟨st_len, fun H3 M3 => ?_⟩
    replace hna := M3.k hna (ne_of hna ho (by simp)); replace hsk := M3.k hsk (ne_of hsk ho (by simp)); replace hsd := M3.k hsd (ne_of hsd ho (by simp)); replace ho := M3.at_
    rw [sp_place1] at ho
    exact k H3 sk ⟨⟨dx, la, ho, (hla.tups M2.tu).tups M3.tu⟩, hna, by rw [hsk]; simp [vls, Vl.v], hsd, ne⟩ (.inl rfl) ((A1.fr.mu M2 (by simp)).mu M3 (by simp))
  | name x =>
    obtain ⟨ra, rfl, hra⟩ := tp2s ty
    unfold t_do_row; refine st_seq ?_
    push_cast [hca, ho, st_place, hix]
    unfold t_do_row_1; refine st_seq ?_
    push_cast [hra]
    unfold t_do_row_2; refine st_seq ?_
    push_cast
    refine ⟨(by simp only [List.length_cons, List.length_nil]; decide), fun p H1 A1 => ?_⟩
    push_cast [A1.at_]
    replace ho := A1.k ho; replace hna := A1.k hna; replace hsk := A1.k hsk; replace hsd := A1.k hsd; replace hra := A1.k hra
    replace hla := hla.tups A1.tu
    unfold t_do_row_3; refine st_seq ?_
    push_cast
    unfold t_do_row_4; refine st_seq ?_
    push_cast
    unfold t_do_row_5; refine st_seq ?_
    push_cast
    unfold t_do_row_6; refine st_seq ?_
    push_cast [ho, st_stack, st_names, hsk, hna, hra, valV_kvs, getD_v]
    refine ⟨bigL (by simp [vls]; omega), fun H2 M2 => ?_⟩
    replace hsd := M2.k hsd ne.symm
    replace ho := M2.k ho (ne_of ho hsk (by simp)); replace hna := M2.k hna (ne_of hna hsk (by simp)); replace hsk := M2.at_
    push_cast [ho, st_place]
    refine ⟨st_len, fun H3 M3 => ?_⟩
    replace hna := M3.k hna (ne_of hna ho (by simp)); replace hsk := M3.k hsk (ne_of hsk ho (by simp)); replace hsd := M3.k hsd (ne_of hsd ho (by simp)); replace ho := M3.at_
    rw [sp_place1] at ho
    exact k H3 sk ⟨⟨dx, la, ho, (hla.tups M2.tu).tups M3.tu⟩, hna, by rw [hsk]; simp [vls], hsd, ne⟩ (.inl rfl) ((A1.fr.mu M2 (by simp)).mu M3 (by simp))
  | op g =>
    obtain ⟨ra, rfl, hra⟩ := tp1 ty
    match hst : s.st, hn with
    | y :: x :: q, _ =>
      simp only [hst] at k
      have hx : x.ok := ok.st x (by rw [hst]; simp)
      have hy : y.ok := ok.st y (by rw [hst]; simp)
      unfold t_do_row; refine st_seq ?_
      push_cast [hca, ho, st_place, hix]
      unfold t_do_row_1; refine st_seq ?_
      push_cast [hra]
      unfold t_do_row_2; refine st_seq ?_
      push_cast
      refine ⟨(by simp only [List.length_cons, List.length_nil]; decide), fun p H1 A1 => ?_⟩
      have hin : (decide (wd 3 = g.s) || (decide (wd 4 = g.s) || (decide (wd 5 = g.s) || decide (wd 6 = g.s)))) = true := by cases g <;> simp [Sg.s, Sg.ix]
      push_cast [A1.at_, hin]
      refine st_seq ?_
      push_cast
      refine ⟨o, na, sk, sd, s, g, x, y, q, rfl, S0.al A1, hst, hx, hy, by rw [hst] at l1; simp only [List.length_cons] at l1; omega, fun H2 sk' S2 o2 f2 => ?_⟩
      simp only [hst] at S2
      refine k H2 sk' S2 (o2.imp_right fun z => A1.fr (S := []) |>.free z (by simp)) ((A1.fr.trans f2).mono (by simp))
  | say =>
    obtain ⟨ra, rfl, hra⟩ := tp1 ty
    match hst : s.st, hn with
    | y :: q, _ =>
      simp only [hst] at k
      rw [hst] at hsk
      unfold vls at hsk
      unfold t_do_row; refine st_seq ?_
      push_cast [hca, ho, st_place, hix]
      unfold t_do_row_1; refine st_seq ?_
      push_cast [hra]
      unfold t_do_row_2; refine st_seq ?_
      push_cast
      refine ⟨(by simp only [List.length_cons, List.length_nil]; decide), fun p H1 A1 => ?_⟩
      push_cast [A1.at_]
      replace ho := A1.k ho; replace hna := A1.k hna; replace hsk := A1.k hsk; replace hsd := A1.k hsd; replace hra := A1.k hra
      replace hla := hla.tups A1.tu
      unfold t_do_row_3; refine st_seq ?_
      push_cast
      unfold t_do_row_4; refine st_seq ?_
      push_cast
      unfold t_do_row_5; refine st_seq ?_
      push_cast
      unfold t_do_row_6; refine st_seq ?_
      push_cast [ho, st_stack, st_said, hsk, hsd, get_last]
      intro H2 M2
      replace hsd := M2.k hsd ne.symm
      replace ho := M2.k ho (ne_of ho hsk (by simp)); replace hna := M2.k hna (ne_of hna hsk (by simp)); replace hsk := M2.at_
      rw [drop_last] at hsk
      push_cast [hsd]
      refine ⟨bigL (by simp [vls]; omega), fun H3 M3 => ?_⟩
      replace hsk := M3.k hsk ne
      replace ho := M3.k ho (ne_of ho hsd (by simp)); replace hna := M3.k hna (ne_of hna hsd (by simp)); replace hsd := M3.at_
      push_cast [ho, st_place]
      refine ⟨st_len, fun H4 M4 => ?_⟩
      replace hna := M4.k hna (ne_of hna ho (by simp)); replace hsk := M4.k hsk (ne_of hsk ho (by simp)); replace hsd := M4.k hsd (ne_of hsd ho (by simp)); replace ho := M4.at_
      rw [sp_place1] at ho
      rw [vls_snoc] at hsd
      exact k H4 sk ⟨⟨dx, la, ho, ((hla.tups M2.tu).tups M3.tu).tups M4.tu⟩, hna, hsk, hsd, ne⟩ (.inl rfl) (((A1.fr.mu M2 (by simp)).mu M3 (by simp)).mu M4 (by simp))
  | set x =>
    obtain ⟨ra, rfl, hra⟩ := tp2s ty
    match hst : s.st, hn with
    | y :: q, _ =>
      simp only [hst] at k
      rw [hst] at hsk
      unfold vls at hsk
      unfold t_do_row; refine st_seq ?_
      push_cast [hca, ho, st_place, hix]
      unfold t_do_row_1; refine st_seq ?_
      push_cast [hra]
      unfold t_do_row_2; refine st_seq ?_
      push_cast
      refine ⟨(by simp only [List.length_cons, List.length_nil]; decide), fun p H1 A1 => ?_⟩
      push_cast [A1.at_]
      replace ho := A1.k ho; replace hna := A1.k hna; replace hsk := A1.k hsk; replace hsd := A1.k hsd; replace hra := A1.k hra
      replace hla := hla.tups A1.tu
      unfold t_do_row_3; refine st_seq ?_
      push_cast
      unfold t_do_row_4; refine st_seq ?_
      push_cast
      unfold t_do_row_5; refine st_seq ?_
      push_cast
      unfold t_do_row_6; refine st_seq ?_
      push_cast [ho, st_stack, st_said, hsk, hsd, get_last]
      intro H2 M2
      replace hsd := M2.k hsd ne.symm
      replace ho := M2.k ho (ne_of ho hsk (by simp)); replace hna := M2.k hna (ne_of hna hsk (by simp)); replace hra := M2.k hra (ne_of hra hsk (by simp)); replace hsk := M2.at_
      rw [drop_last] at hsk
      push_cast [ho, st_names, hna, hra]
      refine ⟨bigL (by rw [kvs_length]; omega), fun H3 M3 => ?_⟩
      replace ho := M3.k ho (ne_of ho hna (by simp)); replace hsk := M3.k hsk (ne_of hsk hna (by simp)); replace hsd := M3.k hsd (ne_of hsd hna (by simp)); replace hna := M3.at_
      rw [putK_kvs] at hna
      push_cast [ho, st_place]
      refine ⟨st_len, fun H4 M4 => ?_⟩
      replace hna := M4.k hna (ne_of hna ho (by simp)); replace hsk := M4.k hsk (ne_of hsk ho (by simp)); replace hsd := M4.k hsd (ne_of hsd ho (by simp)); replace ho := M4.at_
      rw [sp_place1] at ho
      exact k H4 sk ⟨⟨dx, la, ho, ((hla.tups M2.tu).tups M3.tu).tups M4.tu⟩, hna, hsk, hsd, ne⟩ (.inl rfl) (((A1.fr.mu M2 (by simp)).mu M3 (by simp)).mu M4 (by simp))
  | «unless» q =>
    obtain ⟨ra, rfl, hra⟩ := tp2i ty
    match hst : s.st, hn with
    | y :: z, _ =>
      simp only [hst] at k
      rw [hst] at hsk
      unfold vls at hsk
      unfold t_do_row; refine st_seq ?_
      push_cast [hca, ho, st_place, hix]
      unfold t_do_row_1; refine st_seq ?_
      push_cast [hra]
      unfold t_do_row_2; refine st_seq ?_
      push_cast
      refine ⟨(by simp only [List.length_cons, List.length_nil]; decide), fun p H1 A1 => ?_⟩
      push_cast [A1.at_]
      replace ho := A1.k ho; replace hna := A1.k hna; replace hsk := A1.k hsk; replace hsd := A1.k hsd; replace hra := A1.k hra
      replace hla := hla.tups A1.tu
      unfold t_do_row_3; refine st_seq ?_
      push_cast
      unfold t_do_row_4; refine st_seq ?_
      push_cast
      unfold t_do_row_5; refine st_seq ?_
      push_cast [ho, st_stack, hsk, get_last]
      intro H2 M2
      replace hsd := M2.k hsd ne.symm
      replace ho := M2.k ho (ne_of ho hsk (by simp)); replace hna := M2.k hna (ne_of hna hsk (by simp)); replace hra := M2.k hra (ne_of hra hsk (by simp)); replace hsk := M2.at_
      rw [drop_last] at hsk
      refine ⟨y, rfl, fun H3 f3 => ?_⟩
      have keep : ∀ a u, H2 a = some u → H3 a = some u := fun a u h => f3.keep a u h (by simp)
      replace ho := keep _ _ ho
      replace hna := keep _ _ hna
      replace hsk := keep _ _ hsk
      replace hsd := keep _ _ hsd
      replace hra := keep _ _ hra
      replace hla := (hla.tups M2.tu).tups f3.tu
      have F3 : Fr [o, na, sk, sd] H H3 := (A1.fr.mu M2 (by simp)).trans f3.sub0
      cases hy : y.so with
      | false =>
        simp only [hy] at k
        push_cast
        refine st_seq ?_
        push_cast [hra, ho]
        refine ⟨st_len, fun H4 M4 => ?_⟩
        replace hna := M4.k hna (ne_of hna ho (by simp)); replace hsk := M4.k hsk (ne_of hsk ho (by simp)); replace hsd := M4.k hsd (ne_of hsd ho (by simp)); replace ho := M4.at_
        rw [sp_place] at ho
        exact k H4 sk ⟨⟨dx, la, ho, hla.tups M4.tu⟩, hna, hsk, hsd, ne⟩ (.inl rfl) (F3.mu M4 (by simp))
      | true =>
        simp only [hy] at k
        push_cast
        unfold t_do_row_6; refine st_seq ?_
        push_cast [ho, st_place]
        refine ⟨st_len, fun H4 M4 => ?_⟩
        replace hna := M4.k hna (ne_of hna ho (by simp)); replace hsk := M4.k hsk (ne_of hsk ho (by simp)); replace hsd := M4.k hsd (ne_of hsd ho (by simp)); replace ho := M4.at_
        rw [sp_place1] at ho
        exact k H4 sk ⟨⟨dx, la, ho, hla.tups M4.tu⟩, hna, hsk, hsd, ne⟩ (.inl rfl) (F3.mu M4 (by simp))
  | go z =>
    obtain ⟨ra, rfl, hra⟩ := tp2i ty
    unfold t_do_row; refine st_seq ?_
    push_cast [hca, ho, st_place, hix]
    unfold t_do_row_1; refine st_seq ?_
    push_cast [hra]
    unfold t_do_row_2; refine st_seq ?_
    push_cast
    refine ⟨(by simp only [List.length_cons, List.length_nil]; decide), fun p H1 A1 => ?_⟩
    push_cast [A1.at_]
    replace ho := A1.k ho; replace hna := A1.k hna; replace hsk := A1.k hsk; replace hsd := A1.k hsd; replace hra := A1.k hra
    replace hla := hla.tups A1.tu
    unfold t_do_row_3; refine st_seq ?_
    push_cast
    unfold t_do_row_4; refine st_seq ?_
    push_cast
    unfold t_do_row_5; refine st_seq ?_
    push_cast
    refine st_seq ?_
    push_cast [hra, ho]
    refine ⟨st_len, fun H4 M4 => ?_⟩
    replace hna := M4.k hna (ne_of hna ho (by simp)); replace hsk := M4.k hsk (ne_of hsk ho (by simp)); replace hsd := M4.k hsd (ne_of hsd ho (by simp)); replace ho := M4.at_
    rw [sp_place] at ho
    exact k H4 sk ⟨⟨dx, la, ho, hla.tups M4.tu⟩, hna, hsk, hsd, ne⟩ (.inl rfl) (A1.fr.mu M4 (by simp))
  | top =>
    obtain ⟨ra, rfl, hra⟩ := tp1 ty
    unfold t_do_row; refine st_seq ?_
    push_cast [hca, ho, st_place, hix]
    unfold t_do_row_1; refine st_seq ?_
    push_cast [hra]
    unfold t_do_row_2; refine st_seq ?_
    push_cast
    refine ⟨(by simp only [List.length_cons, List.length_nil]; decide), fun p H1 A1 => ?_⟩
    push_cast [A1.at_]
    replace ho := A1.k ho; replace hna := A1.k hna; replace hsk := A1.k hsk; replace hsd := A1.k hsd; replace hra := A1.k hra
    replace hla := hla.tups A1.tu
    unfold t_do_row_3; refine st_seq ?_
    push_cast
    unfold t_do_row_4; refine st_seq ?_
    push_cast [ho, st_turn]
    refine ⟨o, na, sk, sd, s, rfl, ⟨⟨dx, la, ho, hla⟩, hna, hsk, hsd, ne⟩, fun H2 S2 f2 => ?_⟩
    by_cases hl : s.left - 1 < 0
    · simp only [if_pos hl] at k S2
      rw [decide_eq_false (by omega : ¬ 0 ≤ s.left - 1)]
      push_cast
      exact k H2 sk S2 (.inl rfl) ((A1.fr.trans f2).mono (by simp))
    · simp only [if_neg hl] at k S2
      rw [decide_eq_true (by omega : 0 ≤ s.left - 1)]
      push_cast
      obtain ⟨⟨dx, la, ho, hla⟩, hna, hsk, hsd, ne⟩ := S2
      unfold t_do_row_5; refine st_seq ?_
      push_cast
      unfold t_do_row_6; refine st_seq ?_
      push_cast [ho, st_place]
      refine ⟨st_len, fun H4 M4 => ?_⟩
      replace hna := M4.k hna (ne_of hna ho (by simp)); replace hsk := M4.k hsk (ne_of hsk ho (by simp)); replace hsd := M4.k hsd (ne_of hsd ho (by simp)); replace ho := M4.at_
      rw [sp_place1] at ho
      exact k H4 sk ⟨⟨dx, la, ho, hla.tups M4.tu⟩, hna, hsk, hsd, ne⟩ (.inl rfl) (((A1.fr.trans f2).mono (by simp)).mu M4 (by simp))
  | fin =>
    obtain ⟨ra, rfl, hra⟩ := tp1 ty
    unfold t_do_row; refine st_seq ?_
    push_cast [hca, ho, st_place, hix]
    unfold t_do_row_1; refine st_seq ?_
    push_cast [hra]
    unfold t_do_row_2; refine st_seq ?_
    push_cast
    refine ⟨(by simp only [List.length_cons, List.length_nil]; decide), fun p H1 A1 => ?_⟩
    push_cast [A1.at_]
    replace ho := A1.k ho; replace hna := A1.k hna; replace hsk := A1.k hsk; replace hsd := A1.k hsd; replace hra := A1.k hra
    replace hla := hla.tups A1.tu
    unfold t_do_row_3; refine st_seq ?_
    push_cast
    refine st_seq ?_
    push_cast
    refine ⟨(by simp only [List.length_cons, List.length_nil]; decide), fun q H2 A2 => ?_⟩
    replace ho := A2.k ho; replace hna := A2.k hna; replace hsk := A2.k hsk; replace hsd := A2.k hsd
    have hq := A2.at_
    push_cast [ho]
    refine ⟨st_len, fun H4 M4 => ?_⟩
    replace hna := M4.k hna (ne_of hna ho (by simp)); replace hsk := M4.k hsk (ne_of hsk ho (by simp)); replace hsd := M4.k hsd (ne_of hsd ho (by simp)); replace hq := M4.k hq (ne_of hq ho (by simp)); replace ho := M4.at_
    rw [sp_last] at ho
    exact k H4 sk ⟨⟨dx, _, ho, .tup hq (.cons (.str _) .nil)⟩, hna, hsk, hsd, ne⟩ (.inl rfl) ((A1.fr.al A2).mu M4 (by simp))

/-- _law_names from 1 -/
def t_L_names_1 (K : PySem.W.Frag) : TS :=
  (tSeq (tFor (iStr (tC (.str ("abcdefgh" : Str)))) (gName 2)
    (tIfS (tTest (tOp (rI0 fun i j => .bl (decide (j < i))) (tCall sp_L_take [] E0 (tCons (tVar 0) (tCons (tC (.int 3)) tNil))) (tC (.int 0)))) (xPutS (tVar 1) (tVar 2) (tCall sp_L_value [] E0 (tCons (tVar 0) tNil))) tNext))
    (tRet (tVar 1)))

/-- _law_names -/
def t_L_names (K : PySem.W.Frag) : TS :=
  tSeq (tAsg xDic (gName 1)) (t_L_names_1 K)

/-- _law_begun -/
def t_L_begun (K : PySem.W.Frag) : TS :=
  (tRet (tDisp (((tC (.str (wd 31))), (tCB rDctD (tCons (tVar 0) tNil))) :: (((tC (.str (wd 33))), (tVar 1)) :: (((tC (.str (wd 30))), (tVar 2)) :: (((tC (.str (wd 32))), (xLst tNil)) :: (((tC (.str (wd 34))), (xLst tNil)) :: (((tC (.str (wd 35))), (tC .non)) :: []))))))))

/-- _law_same from 1 -/
def t_L_same_1 (K : PySem.W.Frag) (c : CA) : TS :=
  (tSeq (tIfS (tOr (tNot (tB (tCall (sp_L_alike 40) [] E0 (tCons (xFld c.state (tVar 1) ("said" : Str)) (tCons (tOp rGetS (tVar 0) (tC (.str (wd 34)))) tNil))))) (tNot (tB (tCall (sp_L_alike 40) [] E0 (tCons (xFld c.state (tVar 1) ("left" : Str)) (tCons (tOp rGetS (tVar 0) (tC (.str (wd 33)))) tNil)))))) (tRet (tC (.bl false))) tNext)
    (tRet (tAndV (tOp rEqDD (xFld c.state (tVar 1) ("names" : Str)) (tOp rGetS (tVar 0) (tC (.str (wd 31))))) (tCall (sp_L_alike 40) [] E0 (tCons (xFld c.state (tVar 1) ("last" : Str)) (tCons (tOp rGetS (tVar 0) (tC (.str (wd 35)))) tNil))))))

/-- _law_same -/
def t_L_same (K : PySem.W.Frag) (c : CA) : TS :=
  tSeq (tIfS (tOr (tNot (tB (tCall (sp_L_alike 40) [] E0 (tCons (xFld c.state (tVar 1) ("place" : Str)) (tCons (tOp rGetS (tVar 0) (tC (.str (wd 30)))) tNil))))) (tNot (tB (tCall (sp_L_alike 40) [] E0 (tCons (xFld c.state (tVar 1) ("stack" : Str)) (tCons (tOp rGetS (tVar 0) (tC (.str (wd 32)))) tNil)))))) (tRet (tC (.bl false))) tNext) (t_L_same_1 K c)

section
variable {nb nb' hb hb' sb sb' : Addr} {l l' : Int} {p p' : Nat} {la la' : V}
theorem ls_names : valV (lsK nb l p hb sb la) (.inr (wd 31)) = some (.ref nb) := rfl
theorem ls_left : valV (lsK nb l p hb sb la) (.inr (wd 33)) = some (.int l) := rfl
theorem ls_place : valV (lsK nb l p hb sb la) (.inr (wd 30)) = some (.int (p : Nat)) := rfl
theorem ls_half : valV (lsK nb l p hb sb la) (.inr (wd 32)) = some (.ref hb) := rfl
theorem ls_said : valV (lsK nb l p hb sb la) (.inr (wd 34)) = some (.ref sb) := rfl
theorem ls_last : valV (lsK nb l p hb sb la) (.inr (wd 35)) = some la := rfl
theorem lp_names : putK (lsK nb l p hb sb la) (.inr (wd 31)) (.ref nb') = lsK nb' l p hb sb la := rfl
theorem lp_left : putK (lsK nb l p hb sb la) (.inr (wd 33)) (.int l') = lsK nb l' p hb sb la := rfl
theorem lp_place : putK (lsK nb l p hb sb la) (.inr (wd 30)) (.int (p' : Nat)) = lsK nb l p' hb sb la := rfl
theorem lp_place1 : putK (lsK nb l p hb sb la) (.inr (wd 30)) (.int ((p' : Nat) + 1)) = lsK nb l (p' + 1) hb sb la := rfl
theorem lp_half : putK (lsK nb l p hb sb la) (.inr (wd 32)) (.ref hb') = lsK nb l p hb' sb la := rfl
theorem lp_said : putK (lsK nb l p hb sb la) (.inr (wd 34)) (.ref sb') = lsK nb l p hb sb' la := rfl
theorem lp_last : putK (lsK nb l p hb sb la) (.inr (wd 35)) la' = lsK nb l p hb sb la' := rfl
theorem ls_len : (lsK nb l p hb sb la).length < sizeLine := by show 6 < sizeLine; decide
end
theorem abc8_mem {i c : Nat} (h : ("abcdefgh" : Str).cps.toList[i]? = some c) : Nm8 ⟨#[c]⟩ := by
  rw [abc8] at h
  have hi : i < 8 := (List.getElem?_eq_some_iff.mp h).1
  refine ⟨i, hi, ?_⟩
  have hi : i = 0 ∨ i = 1 ∨ i = 2 ∨ i = 3 ∨ i = 4 ∨ i = 5 ∨ i = 6 ∨ i = 7 := by omega
  rcases hi with rfl | rfl | rfl | rfl | rfl | rfl | rfl | rfl <;> simp at h <;> subst h <;> rfl
def NamesInv (H : Hp) (b l a : Addr) (i : Nat) (σ : L2.St) (H' : Hp) : Prop := ∃ (m : Nms) (σ2 : Option V), σ = [some (.ref b), some (.ref a), σ2] ∧ H' a = some (.dK (kvs m)) ∧ NmOk m ∧ BoxAt H' b l ∧ Fr [b, l] H H'
theorem rd_L_names {K : PySem.W.Frag} {vs : List V} {H : Hp} {Q : VK} {E : XK} (h : sp_L_names vs H Q E) : t_L_names K { nx := fun _ H' => Q .non H', rt := Q } (start ["_", "_", "_"] vs) H := by
  obtain ⟨b, l, rfl, B, k⟩ := h
  show t_L_names K _ [some (.ref b), none, none] H
  unfold t_L_names; refine st_seq ?_
  push_cast
  intro a H1 A1
  unfold t_L_names_1; refine st_seq ?_
  refine forS (z := "abcdefgh") (fun R h => h) (NamesInv H b l a) ⟨[], none, rfl, A1.at_, ⟨by simp, fun p hp => by cases hp⟩, B.keep A1.fr, A1.fr⟩ ?_ ?_
  · rintro i ch σ' H' hc ⟨m, σ2, rfl, ha, mo, B1, f⟩
    show tIfS _ _ _ _ [some (.ref b), some (.ref a), some (.str ⟨#[ch]⟩)] H'
    push_cast
    refine ⟨b, l, 3, rfl, B1, by decide, by decide, fun r H2 r0 r1 B2 f2 => ?_⟩
    have ha2 := f2.keep _ _ ha (B.off A1.new)
    push_cast
    refine i2 (fun _ => ?_) fun _ => ⟨m, _, rfl, ha2, mo, B2, f.trans f2⟩
    refine ⟨b, l, rfl, B2, fun x H3 hx B3 f3 => ?_⟩
    have ha3 := f3.keep _ _ ha2 (B.off A1.new)
    push_cast [ha3]
    refine ⟨bigL (by rw [kvs_length]; have := mo.len; omega), fun H4 M4 => ?_⟩
    refine ⟨nput m ⟨#[ch]⟩ x, _, rfl, by rw [M4.at_, putK_kvs], mo.put (abc8_mem hc) hx, B3.mu M4 (B.off A1.new), ((f.trans f2).trans f3).muN M4 A1.new⟩
  · rintro σ' H' ⟨m, σ2, rfl, ha, mo, B1, f⟩
    push_cast
    exact k a m H' A1.new ha mo B1 f
theorem rd_L_begun {K : PySem.W.Frag} {vs : List V} {H : Hp} {Q : VK} {E : XK} (h : sp_L_begun vs H Q E) : t_L_begun K { nx := fun _ H' => Q .non H', rt := Q } (start ["_", "_", "_"] vs) H := by
  obtain ⟨a, m, l, p, rfl, ha, k⟩ := h
  show t_L_begun K _ [some (.ref a), some (.int l), some (.int (p : Nat))] H
  unfold t_L_begun
  push_cast [tDisp, tPairs]
  intro d hd
  have A0 := Al.of (o := HO.dK []) hd
  push_cast [A0.k ha]
  intro nb H1 A1
  refine ⟨(by simp only [List.length_cons, List.length_nil]; decide), fun hb H2 A2 => ⟨(by simp only [List.length_cons, List.length_nil]; decide), fun sb H3 A3 => ?_⟩⟩
  have hd3 := A3.k (A2.k (A1.k A0.at_))
  have F3 : Fr [] H H3 := ((A0.fr.al A1).al A2).al A3
  refine ⟨hd3, [(.inr (wd 31), .ref nb), (.inr (wd 33), .int l), (.inr (wd 30), .int (p : Nat)), (.inr (wd 32), .ref hb), (.inr (wd 34), .ref sb), (.inr (wd 35), .non)], rfl, Nat.le_of_ble_eq_true rfl, ?_⟩
  have M := Mu.of (o := .dK (lsK nb l p hb sb .non)) hd3 fun _ z => by cases z
  have n1 : nb ≠ d := fun e => ne_of_none A0.at_ A1.new e.symm
  refine k d nb hb sb _ hd (A0.fr (S := []) |>.free A1.new (by simp)) ((A0.fr (S := [])).al A1 |>.free A2.new (by simp)) (((A0.fr (S := [])).al A1).al A2 |>.free A3.new (by simp)) ⟨⟨_, M.at_, by simp only [lastD, tp_non]⟩, M.k (A3.k (A2.k A1.at_)) n1, M.k (A3.k A2.at_) (ne_of (A3.k A2.at_) hd3 (by simp)), M.k A3.at_ (ne_of A3.at_ hd3 (by simp)), n1⟩ (F3.muN M hd)
theorem rp_vls {H : Hp} {a : Addr} {l : List Vl} (h : H a = some (.lst (vls l))) : ∃ d : PyData, Rp H (.ref a) d ∧ d.depth ≤ 1 ∧ ∀ b, H b = some (.lst (vls l)) → Rp H (.ref b) d := by
  have go : ∀ l : List Vl, ∃ ds : List PyData, RpAll H (vls l) ds ∧ PyData.depthAll ds = 0 := by
    intro l
    induction l with
    | nil => exact ⟨[], .nil, rfl⟩
    | cons x r ih =>
      obtain ⟨ds, h1, h2⟩ := ih
      obtain ⟨d, h3, h4⟩ := (show ∃ d : PyData, Rp H x.v d ∧ d.depth = 0 by cases x with | n i => exact ⟨.int i, .int i, rfl⟩ | t z => exact ⟨.str z, .str z, rfl⟩)
      exact ⟨d :: ds, .cons h3 h1, by simp only [PyData.depthAll, h2, h4]; rfl⟩
  obtain ⟨ds, h1, h2⟩ := go l
  exact ⟨.list ds, .lst h h1, by simp only [PyData.depth, h2]; omega, fun b hb => .lst hb h1⟩
theorem eqK_refl {m : Nms} (h : NmOk m) : EqK (kvs m) (kvs m) := by
  refine ⟨rfl, fun p hp => ?_⟩
  obtain ⟨q, hq, rfl⟩ := List.mem_map.mp hp
  refine ⟨by show valV (kvs m) (.inr q.1) = _; rw [valV_kvs, nget_of_mem h.1 hq]; rfl, ?_⟩
  cases q.2 <;> rfl
theorem lastD_depth (l : Option Ls) : (lastD l).depth ≤ 1 := by
  cases l with
  | none => simp [lastD, PyData.depth]
  | some l => cases l <;> simp [lastD, Ls.d, PyData.depth, PyData.depthAll]
theorem rd_L_same {K : PySem.W.Frag} {c : CA} {vs : List V} {H : Hp} {Q : VK} {E : XK} (h : sp_L_same c vs H Q E) : t_L_same K c { nx := fun _ H' => Q .non H', rt := Q } (start ["_", "_"] vs) H := by
  obtain ⟨o, na, sk, sd, d, nb, hb, sb, s, rfl, S, L, ok, k⟩ := h
  show t_L_same K c _ [some (.ref d), some (.ref o)] H
  obtain ⟨⟨dx, la, ho, hla⟩, hna, hsk, hsd, ne⟩ := S
  obtain ⟨⟨lb, hd, hlb⟩, hnb, hhb, hsb, ne2⟩ := L
  obtain ⟨d1, r1, e1, g1⟩ := rp_vls hsk
  obtain ⟨d2, r2, e2, g2⟩ := rp_vls hsd
  have e3 := lastD_depth s.last
  unfold t_L_same; refine st_seq ?_
  push_cast [ho, st_place, hd, ls_place]
  refine ⟨_, _, .int s.place, rfl, .int _, .int _, by simp only [PyData.depth]; decide, ?_⟩
  push_cast [ho, hd, st_stack, ls_half]
  refine ⟨_, _, d1, rfl, r1, g1 _ hhb, by omega, ?_⟩
  push_cast
  unfold t_L_same_1; refine st_seq ?_
  push_cast [ho, st_said, hd, ls_said]
  refine ⟨_, _, d2, rfl, r2, g2 _ hsb, by omega, ?_⟩
  push_cast [ho, st_left, hd, ls_left]
  refine ⟨_, _, .int s.left, rfl, .int _, .int _, by simp only [PyData.depth]; decide, ?_⟩
  push_cast [ho, st_names, hd, ls_names, rEqDD, hna, hnb]
  refine ⟨eqK_refl ok.nm, ?_⟩
  push_cast [ho, hd, st_last, ls_last]
  exact ⟨_, _, lastD s.last, rfl, hla.rp, hlb.rp, by omega, k⟩
theorem step_said {code : List Rw} {s : MS} : (step code s).said.length ≤ s.said.length + 1 := by
  unfold step
  split
  · unfold stepR
    repeat' split
    all_goals first | omega | (simp only [List.length_append, List.length_cons, List.length_nil]; omega)
  · omega
theorem lastN {H : Hp} {l : Option Ls} {v : V} (h : Tp H (lastD l) v) : decide (v = .non) = l.isNone := by
  cases l with
  | none => simp only [lastD, tp_non] at h; subst h; rfl
  | some l => cases l <;> simp only [lastD, Ls.d, tp_tup] at h <;> obtain ⟨a, xs, rfl, _⟩ := h <;> rfl
theorem lastN' {H : Hp} {l : Option Ls} {v : V} (h : Tp H (lastD l) v) : (v = .non) = (l = none) := by
  have := lastN h
  cases l with
  | none => simp only [lastD, tp_non] at h; subst h; simp
  | some l => cases l <;> simp only [lastD, Ls.d, tp_tup] at h <;> obtain ⟨a, xs, rfl, _⟩ := h <;> simp

/-! the maker in the heap: promises -/
def nV (n : Nat) : V := .int (n : Nat)
def nK (n : Nat) : Key := .inl (n : Nat)
def kdV (k : Kd) : V := .str k.s
def sK (x : Str) : Key := .inr x
theorem nK_inj (a b : Nat) (h : nK a = nK b) : a = b := by have := Sum.inl.inj h; omega
theorem sK_inj (a b : Str) (h : sK a = sK b) : a = b := Sum.inr.inj h
theorem Kd.s_inj {a b : Kd} : (a.s = b.s) = (a = b) := by
  cases a <;> cases b <;> simp [Kd.s, wd_eq]
theorem Kd.s_ne (a : Kd) : (a.s = ("" : Str)) = False := by cases a <;> exact wd_ne0 (by decide)
/-! ### guesses -/
structure KinAt (H : Hp) (a : Addr) (gk : Nat → Option (Kd × Kd)) : Prop where
  dic : ∃ ks, H a = some (.dK ks) ∧ ∀ p : Nat, (gk p = none → valV ks (nK p) = none) ∧ ∀ x y, gk p = some (x, y) → ∃ v, valV ks (nK p) = some v ∧ Tp H (.tuple [.str x.s, .str y.s]) v
structure WayAt (H : Hp) (a : Addr) (gw : Nat → Option Bool) : Prop where
  dic : ∃ ks, H a = some (.dK ks) ∧ ∀ p : Nat, valV ks (nK p) = (gw p).map V.bl
theorem KinAt.keep {H H' : Hp} {a : Addr} {gk : Nat → Option (Kd × Kd)} {S : List Addr} (k : KinAt H a gk) (f : Fr S H H') (h : a ∉ S) : KinAt H' a gk := by
  obtain ⟨ks, h1, h2⟩ := k.dic
  refine ⟨ks, f.keep _ _ h1 h, fun p => ⟨(h2 p).1, fun x y e => ?_⟩⟩
  obtain ⟨v, h3, h4⟩ := (h2 p).2 x y e
  exact ⟨v, h3, h4.tups f.tu⟩
theorem WayAt.keep {H H' : Hp} {a : Addr} {gw : Nat → Option Bool} {S : List Addr} (k : WayAt H a gw) (f : Fr S H H') (h : a ∉ S) : WayAt H' a gw := by
  obtain ⟨ks, h1, h2⟩ := k.dic
  exact ⟨ks, f.keep _ _ h1 h, h2⟩
/-! ### the maker -/
structure MA where
  o : Addr
  ra : Addr
  wa : Addr
  ca : Addr
  ha : Addr
  na : Addr
  gka : Addr
  gwa : Addr
  vc : V
def MA.fp (A : MA) : List Addr := [A.o, A.ra, A.wa, A.ca, A.ha, A.na]
def mkF (A : MA) (many : Nat) : List (Str × V) := [("code", A.vc), ("guess_kinds", .ref A.gka), ("guess_ways", .ref A.gwa), ("rows", .ref A.ra), ("many", .int (many : Nat)), ("where", .ref A.wa), ("changed", .ref A.ca), ("half", .ref A.ha), ("known", .ref A.na)]
section
variable {A : MA} {n n' : Nat} {ha' : Addr}
theorem mk_code : (mkF A n).lookup ("code" : Str) = some A.vc := rfl
theorem mk_gk : (mkF A n).lookup ("guess_kinds" : Str) = some (.ref A.gka) := rfl
theorem mk_gw : (mkF A n).lookup ("guess_ways" : Str) = some (.ref A.gwa) := rfl
theorem mk_rows : (mkF A n).lookup ("rows" : Str) = some (.ref A.ra) := rfl
theorem mk_many : (mkF A n).lookup ("many" : Str) = some (.int (n : Nat)) := rfl
theorem mk_where : (mkF A n).lookup ("where" : Str) = some (.ref A.wa) := rfl
theorem mk_changed : (mkF A n).lookup ("changed" : Str) = some (.ref A.ca) := rfl
theorem mk_half : (mkF A n).lookup ("half" : Str) = some (.ref A.ha) := rfl
theorem mk_known : (mkF A n).lookup ("known" : Str) = some (.ref A.na) := rfl
theorem mk_slot : (mkF A n).lookup ("slot" : Str) = none := rfl
theorem mk_leaving : (mkF A n).lookup ("leaving" : Str) = none := rfl
theorem mk_fixed : (mkF A n).lookup ("fixed" : Str) = none := rfl
theorem mk_name : (mkF A n).lookup ("name" : Str) = none := rfl
theorem mk_guess : (mkF A n).lookup ("guess" : Str) = none := rfl
theorem mk_guard : (mkF A n).lookup ("guard" : Str) = none := rfl
theorem mk_sign : (mkF A n).lookup ("sign" : Str) = none := rfl
theorem mk_way : (mkF A n).lookup ("way" : Str) = none := rfl
theorem mk_plain : (mkF A n).lookup ("plain" : Str) = none := rfl
theorem mk_closed : (mkF A n).lookup ("closed" : Str) = none := rfl
theorem mk_follow : (mkF A n).lookup ("follow" : Str) = none := rfl
theorem mp_many : putF ("many" : Str) (.int ((n : Nat) + 1)) (mkF A n) = mkF A (n + 1) := rfl
theorem mp_half : putF ("half" : Str) (.ref ha') (mkF A n) = mkF { A with ha := ha' } n := rfl
theorem mk_len : (mkF A n).length < 1000 := by show 9 < 1000; decide
end
structure MkAt (c : CA) (H : Hp) (A : MA) (m : Mk) : Prop where
  ins : ∃ dx, H A.o = some (.ins c.maker dx (mkF A m.many))
  rows : ∃ xs, H A.ra = some (.lst xs) ∧ TpL H (m.rows.map Qr.d) xs
  whr : H A.wa = some (.dK (kvG sK nV m.whr))
  chg : H A.ca = some (.dK (kvG sK V.bl m.chg))
  half : H A.ha = some (.lst (m.hf.reverse.map nV))
  known : H A.na = some (.dK (kvG nK kdV m.known))
  ne1 : A.ra ≠ A.ha
  ne2 : A.wa ≠ A.ca
  ne3 : A.wa ≠ A.na
  ne4 : A.ca ≠ A.na
theorem MkAt.keep {c : CA} {H H' : Hp} {A : MA} {m : Mk} {S : List Addr} (h : MkAt c H A m) (f : Fr S H H') (d : Disj A.fp S) : MkAt c H' A m := by
  obtain ⟨⟨dx, h1⟩, ⟨xs, h2, t2⟩, h3, h4, h5, h6, n1, n2, n3, n4⟩ := h
  exact ⟨⟨dx, f.keep _ _ h1 (d _ (by simp [MA.fp]))⟩, ⟨xs, f.keep _ _ h2 (d _ (by simp [MA.fp])), t2.tups f.tu⟩, f.keep _ _ h3 (d _ (by simp [MA.fp])), f.keep _ _ h4 (d _ (by simp [MA.fp])), f.keep _ _ h5 (d _ (by simp [MA.fp])), f.keep _ _ h6 (d _ (by simp [MA.fp])), n1, n2, n3, n4⟩
theorem MkAt.keep0 {c : CA} {H H' : Hp} {A : MA} {m : Mk} (h : MkAt c H A m) (f : Fr [] H H') : MkAt c H' A m := h.keep f fun _ _ z => by cases z
theorem MkAt.there {c : CA} {H : Hp} {A : MA} {m : Mk} (h : MkAt c H A m) : ∀ x ∈ A.fp, H x ≠ none := by
  obtain ⟨⟨dx, h1⟩, ⟨xs, h2, _⟩, h3, h4, h5, h6, _⟩ := h
  intro x hx
  simp only [MA.fp, List.mem_cons, List.not_mem_nil, or_false] at hx
  rcases hx with rfl | rfl | rfl | rfl | rfl | rfl
  · rw [h1]; simp
  · rw [h2]; simp
  · rw [h3]; simp
  · rw [h4]; simp
  · rw [h5]; simp
  · rw [h6]; simp
/-- sizes, names -/
structure Mk.Ok (m : Mk) : Prop where
  rl : m.rows.length ≤ 100000
  kl : m.known.length ≤ m.rows.length
  hl : m.hf.length ≤ 1000
  wn : (m.whr.map (·.1)).Nodup
  w8 : ∀ x ∈ m.whr.map (·.1), Nm8 x
  cn : (m.chg.map (·.1)).Nodup
  cw : ∀ x ∈ m.chg.map (·.1), x ∈ m.whr.map (·.1)
theorem nm_len {l : List Str} (h : l.Nodup) (h8 : ∀ x ∈ l, Nm8 x) : l.length ≤ 8 := by
  have := NmOk.len (m := l.map fun x => (x, Vl.n 0)) ⟨by rw [List.map_map, show ((fun x : Str × Vl => x.fst) ∘ fun x : Str => (x, Vl.n 0)) = id from rfl, List.map_id]; exact h, fun p hp => by
    obtain ⟨x, hx, rfl⟩ := List.mem_map.mp hp
    exact ⟨h8 x hx, ⟨by decide, by decide⟩⟩⟩
  simpa using this
theorem Mk.Ok.c8 {m : Mk} (h : m.Ok) : ∀ x ∈ m.chg.map (·.1), Nm8 x := fun x hx => h.w8 x (h.cw x hx)
theorem Mk.Ok.wl {m : Mk} (h : m.Ok) : m.whr.length ≤ 8 := by simpa using nm_len h.wn h.w8
theorem Mk.Ok.cl {m : Mk} (h : m.Ok) : m.chg.length ≤ 8 := by simpa using nm_len h.cn h.c8
/-- moved on: perhaps another list for what is half reckoned -/
def Nxt (H : Hp) (A A' : MA) : Prop := ∃ ha', A' = { A with ha := ha' } ∧ (ha' = A.ha ∨ H ha' = none)
theorem Nxt.refl (H : Hp) (A : MA) : Nxt H A A := ⟨A.ha, rfl, .inl rfl⟩
theorem Nxt.own {H : Hp} {A A' : MA} (n : Nxt H A A') : Own H A.fp A'.fp := by
  obtain ⟨ha', rfl, h⟩ := n
  intro x hx
  simp only [MA.fp, List.mem_cons, List.not_mem_nil, or_false] at hx ⊢
  rcases hx with rfl | rfl | rfl | rfl | rfl | rfl
  · simp
  · simp
  · simp
  · simp
  · rcases h with h | h
    · simp [h]
    · simp [h]
  · simp
theorem Nxt.trans {H H1 : Hp} {A A1 A2 : MA} (a : Nxt H A A1) (f : Fr A.fp H H1) (th : ∀ x ∈ A1.fp, H1 x ≠ none) (b : Nxt H1 A1 A2) : Nxt H A A2 := by
  obtain ⟨h1, rfl, e1⟩ := a
  obtain ⟨h2, rfl, e2⟩ := b
  refine ⟨h2, rfl, ?_⟩
  rcases e2 with rfl | e2
  · exact e1
  · by_cases hz : h2 ∈ A.fp
    · simp only [MA.fp, List.mem_cons, List.not_mem_nil, or_false] at hz
      rcases hz with rfl | rfl | rfl | rfl | rfl | rfl
      · exact absurd e2 (th _ (by simp [MA.fp]))
      · exact absurd e2 (th _ (by simp [MA.fp]))
      · exact absurd e2 (th _ (by simp [MA.fp]))
      · exact absurd e2 (th _ (by simp [MA.fp]))
      · exact .inl rfl
      · exact absurd e2 (th _ (by simp [MA.fp]))
    · exact .inr (f.free e2 hz)
/-! promises -/
def sp_Notes___init__ (c : CA) : Sp := fun vs H Q _ => ∃ (o dx a b : Addr) (ks ws : List (Key × V)), vs = [.ref o, .ref a, .ref b] ∧ H o = some (.ins c.notes dx []) ∧ H a = some (.dK ks) ∧ H b = some (.dK ws) ∧
  ∀ ka wa ta dx' H', H ka = none → H wa = none → H ta = none → ka ≠ wa → ka ≠ ta → wa ≠ ta → H' o = some (.ins c.notes dx' [("kinds", .ref ka), ("ways", .ref wa), ("tops", .ref ta)]) → H' ka = some (.dK ks) → H' wa = some (.dK ws) → H' ta = some (.dK []) → Fr [o] H H' → Q .non H'
theorem len_Notes___init__ {c : CA} (vs : List V) (H : Hp) (Q : VK) (E : XK) (h : sp_Notes___init__ c vs H Q E) : vs.length = 3 := by
  obtain ⟨_, _, _, _, _, _, rfl, _⟩ := h
  rfl
def ntF (ka wa ta : Addr) : List (Str × V) := [("kinds", .ref ka), ("ways", .ref wa), ("tops", .ref ta)]
def sp_Maker___init__ (c : CA) : Sp := fun vs H Q _ => ∃ (o dx no dn ka wa ta : Addr) (vc : V), vs = [.ref o, vc, .ref no] ∧ H o = some (.ins c.maker dx []) ∧ H no = some (.ins c.notes dn (ntF ka wa ta)) ∧ o ≠ no ∧
  ∀ A H', A.o = o → A.gka = ka → A.gwa = wa → A.vc = vc → (∀ x ∈ [A.ra, A.wa, A.ca, A.ha, A.na], H x = none) → MkAt c H' A ⟨[], 0, [], [], [], []⟩ → Fr [o] H H' → Q .non H'
theorem len_Maker___init__ {c : CA} (vs : List V) (H : Hp) (Q : VK) (E : XK) (h : sp_Maker___init__ c vs H Q E) : vs.length = 3 := by
  obtain ⟨_, _, _, _, _, _, _, _, rfl, _⟩ := h
  rfl
def okd : Option Kd → Str
  | none => ("" : Str)
  | some k => k.s
def sp_Maker_slot (c : CA) : Sp := fun vs H Q _ => ∃ (A : MA) (m : Mk) (k : Option Kd), vs = [.ref A.o, .str (okd k)] ∧ MkAt c H A m ∧ m.Ok ∧ ∀ H', MkAt c H' A (m.new k) → Fr A.fp H H' → Q (.int (m.many : Nat)) H'
theorem len_Maker_slot {c : CA} (vs : List V) (H : Hp) (Q : VK) (E : XK) (h : sp_Maker_slot c vs H Q E) : vs.length = 2 := by
  obtain ⟨_, _, _, rfl, _⟩ := h
  rfl
def sp_Maker_leaving (c : CA) : Sp := fun vs H Q _ => ∃ (A : MA) (m : Mk) (p : Nat), vs = [.ref A.o, .int (p : Nat)] ∧ MkAt c H A m ∧ m.Ok ∧ ∀ v H', Tp H' (m.exit p).d v → Fr [] H H' → Q v H'
theorem len_Maker_leaving {c : CA} (vs : List V) (H : Hp) (Q : VK) (E : XK) (h : sp_Maker_leaving c vs H Q E) : vs.length = 2 := by
  obtain ⟨_, _, _, rfl, _⟩ := h
  rfl
def sp_Maker_fixed (c : CA) : Sp := fun vs H Q _ => ∃ (A : MA) (m m' : Mk) (r : Rw) (v : V), vs = [.ref A.o, v] ∧ MkAt c H A m ∧ m.Ok ∧ ((∃ n, r = .num n) ∨ ∃ z, r = .text z) ∧ Tp H r.d v ∧ m.row none 0 r = some m' ∧ ∀ H', MkAt c H' A m' → Fr A.fp H H' → Q .non H'
theorem len_Maker_fixed {c : CA} (vs : List V) (H : Hp) (Q : VK) (E : XK) (h : sp_Maker_fixed c vs H Q E) : vs.length = 2 := by
  obtain ⟨_, _, _, _, _, rfl, _⟩ := h
  rfl
def sp_Maker_name (c : CA) : Sp := fun vs H Q _ => ∃ (A : MA) (m m' : Mk) (x : Str), vs = [.ref A.o, .str x] ∧ MkAt c H A m ∧ m.Ok ∧ Nm8 x ∧ m.row none 0 (.name x) = some m' ∧ ∀ H', MkAt c H' A m' → Fr A.fp H H' → Q .non H'
theorem len_Maker_name {c : CA} (vs : List V) (H : Hp) (Q : VK) (E : XK) (h : sp_Maker_name c vs H Q E) : vs.length = 2 := by
  obtain ⟨_, _, _, _, rfl, _⟩ := h
  rfl
def okV : Option Kd → V
  | none => .non
  | some k => .str k.s
def sp_Maker_guess (c : CA) : Sp := fun vs H Q _ => ∃ (A : MA) (m : Mk) (p : Nat) (gk : Nat → Option (Kd × Kd)) (a b : Nat) (r : List Nat), vs = [.ref A.o, .int (p : Nat)] ∧ MkAt c H A m ∧ KinAt H A.gka gk ∧ m.hf = b :: a :: r ∧ ∀ H', Fr [] H H' → Q (okV (m.guess (gk p) a b)) H'
theorem len_Maker_guess {c : CA} (vs : List V) (H : Hp) (Q : VK) (E : XK) (h : sp_Maker_guess c vs H Q E) : vs.length = 2 := by
  obtain ⟨_, _, _, _, _, _, _, rfl, _⟩ := h
  rfl
def sp_Maker_guard (c : CA) : Sp := fun vs H Q _ => ∃ (A : MA) (m : Mk) (a : Nat) (k : Kd) (p : Nat), vs = [.ref A.o, .int (a : Nat), .str k.s, .int (p : Nat)] ∧ MkAt c H A m ∧ m.Ok ∧ ∀ H', MkAt c H' A (m.guard a k p) → Fr A.fp H H' → Q .non H'
theorem len_Maker_guard {c : CA} (vs : List V) (H : Hp) (Q : VK) (E : XK) (h : sp_Maker_guard c vs H Q E) : vs.length = 4 := by
  obtain ⟨_, _, _, _, _, rfl, _⟩ := h
  rfl
def spMk (c : CA) (vs : List V) (H : Hp) (Q : VK) (A : MA) (m : Mk) (gk : Nat → Option (Kd × Kd)) (p : Nat) (r : Rw) : Prop := MkAt c H A m ∧ m.Ok ∧ KinAt H A.gka gk ∧ A.gka ∉ A.fp ∧ r.need ≤ m.hf.length ∧ r.okv ∧ m.rows.length ≤ 50000 ∧
  (∀ H' A' m', m.row (gk p) p r = some m' → MkAt c H' A' m' → Nxt H A A' → Fr A.fp H H' → Q (.bl true) H') ∧ (∀ H', m.row (gk p) p r = none → MkAt c H' A m → Fr A.fp H H' → Q (.bl false) H')
def sp_Maker_sign (c : CA) : Sp := fun vs H Q _ => ∃ (A : MA) (m : Mk) (gk : Nat → Option (Kd × Kd)) (p : Nat) (g : Sg), vs = [.ref A.o, .str g.s, .int (p : Nat)] ∧ spMk c vs H Q A m gk p (.op g)
theorem len_Maker_sign {c : CA} (vs : List V) (H : Hp) (Q : VK) (E : XK) (h : sp_Maker_sign c vs H Q E) : vs.length = 3 := by
  obtain ⟨_, _, _, _, _, rfl, _⟩ := h
  rfl
def plainR : Rw → Prop
  | .go _ => False
  | .unless _ => False
  | .top => False
  | .fin => False
  | _ => True
def sp_Maker_plain (c : CA) : Sp := fun vs H Q _ => ∃ (A : MA) (m : Mk) (gk : Nat → Option (Kd × Kd)) (p : Nat) (r : Rw) (v : V), vs = [.ref A.o, v, .int (p : Nat)] ∧ Tp H r.d v ∧ plainR r ∧ spMk c vs H Q A m gk p r
theorem len_Maker_plain {c : CA} (vs : List V) (H : Hp) (Q : VK) (E : XK) (h : sp_Maker_plain c vs H Q E) : vs.length = 3 := by
  obtain ⟨_, _, _, _, _, _, rfl, _⟩ := h
  rfl
def sp_Maker_way (c : CA) : Sp := fun vs H Q _ => ∃ (A : MA) (m : Mk) (gw : Nat → Option Bool) (p q s : Nat) (h : List Nat) (code : List Rw), vs = [.ref A.o, .int (p : Nat)] ∧ MkAt c H A m ∧ m.Ok ∧ WayAt H A.gwa gw ∧ A.gwa ∉ A.fp ∧ Tp H (rowsD code) A.vc ∧ code[p]? = some (.unless q) ∧ m.hf = s :: h ∧ m.rows.length ≤ 50000 ∧
  (gw p = none → ∀ H', MkAt c H' A m → Fr A.fp H H' → Q (.int (-1)) H') ∧
  (∀ w, gw p = some w → ∀ H', MkAt c H' A { m with hf := h, rows := m.rows ++ [.so s w ({ m with hf := h }.exit (if w then q else p + 1))] } → Fr A.fp H H' → Q (.int ((if w then p + 1 else q : Nat) : Int)) H')
theorem len_Maker_way {c : CA} (vs : List V) (H : Hp) (Q : VK) (E : XK) (h : sp_Maker_way c vs H Q E) : vs.length = 2 := by
  obtain ⟨_, _, _, _, _, _, _, _, rfl, _⟩ := h
  rfl
def sp_Maker_closed (c : CA) : Sp := fun vs H Q _ => ∃ (A : MA) (m : Mk), vs = [.ref A.o] ∧ MkAt c H A m ∧ m.Ok ∧ ∀ H', MkAt c H' A { m with rows := m.rows ++ m.puts ++ [.again] } → Fr A.fp H H' → Q .non H'
theorem len_Maker_closed {c : CA} (vs : List V) (H : Hp) (Q : VK) (E : XK) (h : sp_Maker_closed c vs H Q E) : vs.length = 1 := by
  obtain ⟨_, _, rfl, _⟩ := h
  rfl
def sp_Maker_follow (c : CA) : Sp := fun vs H Q _ => ∃ (A : MA) (gk : Nat → Option (Kd × Kd)) (gw : Nat → Option Bool) (code : List Rw) (hts : List Nat) (top most : Nat), vs = [.ref A.o, .int (top : Nat), .int (most : Nat)] ∧ MkAt c H A ⟨[], 0, [], [], [], []⟩ ∧ KinAt H A.gka gk ∧ WayAt H A.gwa gw ∧ A.gka ∉ A.fp ∧ A.gwa ∉ A.fp ∧
  Tp H (rowsD code) A.vc ∧ Ty code hts ∧ code[top]? = some .top ∧ most ≤ 40000 ∧ ∀ rows H' A' m', Quick code gk gw most top rows → rows.length ≤ most + 20 → MkAt c H' A' m' → m'.rows = rows → Nxt H A A' → Fr A.fp H H' → Q .non H'
theorem len_Maker_follow {c : CA} (vs : List V) (H : Hp) (Q : VK) (E : XK) (h : sp_Maker_follow c vs H Q E) : vs.length = 3 := by
  obtain ⟨_, _, _, _, _, _, _, rfl, _⟩ := h
  rfl
def quickD (rows : List Qr) : PyData := .tuple (rows.map Qr.d)
def NotesAt (c : CA) (H : Hp) (no ka wa ta : Addr) : Prop := ∃ dn, H no = some (.ins c.notes dn (ntF ka wa ta))
def sp_quick_rows (c : CA) : Sp := fun vs H Q _ => ∃ (vc : V) (code : List Rw) (hts : List Nat) (top most : Nat) (no ka wa ta : Addr) (gk : Nat → Option (Kd × Kd)) (gw : Nat → Option Bool), vs = [vc, .int (top : Nat), .ref no, .int (most : Nat)] ∧ Tp H (rowsD code) vc ∧ Ty code hts ∧ code[top]? = some .top ∧ most ≤ 40000 ∧
  NotesAt c H no ka wa ta ∧ KinAt H ka gk ∧ WayAt H wa gw ∧ ∀ v rows H', Quick code gk gw most top rows → rows.length ≤ most + 20 → Tp H' (quickD rows) v → Fr [] H H' → Q v H'
theorem len_quick_rows {c : CA} (vs : List V) (H : Hp) (Q : VK) (E : XK) (h : sp_quick_rows c vs H Q E) : vs.length = 4 := by
  obtain ⟨_, _, _, _, _, _, _, _, _, _, _, rfl, _⟩ := h
  rfl

/-- Notes.__init__ from 1 -/
def t_Notes___init___1 (K : PySem.W.Frag) (c : CA) : TS :=
  (tSeq (xSet c.notes (tVar 0) (tCB rDctD (tCons (tVar 2) tNil)) ("ways" : Str))
    (xSet c.notes (tVar 0) xDic ("tops" : Str)))

/-- Notes.__init__ -/
def t_Notes___init__ (K : PySem.W.Frag) (c : CA) : TS :=
  tSeq (xSet c.notes (tVar 0) (tCB rDctD (tCons (tVar 1) tNil)) ("kinds" : Str)) (t_Notes___init___1 K c)

/-- Maker.__init__ from 7 -/
def t_Maker___init___7 (K : PySem.W.Frag) (c : CA) : TS :=
  (tSeq (xSet c.maker (tVar 0) (xLst tNil) ("half" : Str))
    (xSet c.maker (tVar 0) xDic ("known" : Str)))

/-- Maker.__init__ from 6 -/
def t_Maker___init___6 (K : PySem.W.Frag) (c : CA) : TS :=
  tSeq (xSet c.maker (tVar 0) xDic ("changed" : Str)) (t_Maker___init___7 K c)

/-- Maker.__init__ from 5 -/
def t_Maker___init___5 (K : PySem.W.Frag) (c : CA) : TS :=
  tSeq (xSet c.maker (tVar 0) xDic ("where" : Str)) (t_Maker___init___6 K c)

/-- Maker.__init__ from 4 -/
def t_Maker___init___4 (K : PySem.W.Frag) (c : CA) : TS :=
  tSeq (xSet c.maker (tVar 0) (tC (.int 0)) ("many" : Str)) (t_Maker___init___5 K c)

/-- Maker.__init__ from 3 -/
def t_Maker___init___3 (K : PySem.W.Frag) (c : CA) : TS :=
  tSeq (xSet c.maker (tVar 0) (xLst tNil) ("rows" : Str)) (t_Maker___init___4 K c)

/-- Maker.__init__ from 2 -/
def t_Maker___init___2 (K : PySem.W.Frag) (c : CA) : TS :=
  tSeq (xSet c.maker (tVar 0) (xFld c.notes (tVar 2) ("ways" : Str)) ("guess_ways" : Str)) (t_Maker___init___3 K c)

/-- Maker.__init__ from 1 -/
def t_Maker___init___1 (K : PySem.W.Frag) (c : CA) : TS :=
  tSeq (xSet c.maker (tVar 0) (xFld c.notes (tVar 2) ("kinds" : Str)) ("guess_kinds" : Str)) (t_Maker___init___2 K c)

/-- Maker.__init__ -/
def t_Maker___init__ (K : PySem.W.Frag) (c : CA) : TS :=
  tSeq (xSet c.maker (tVar 0) (tVar 1) ("code" : Str)) (t_Maker___init___1 K c)

/-- Maker.slot from 2 -/
def t_Maker_slot_2 (K : PySem.W.Frag) (c : CA) : TS :=
  (tSeq (tIfS (tTest (tOp rNe (tVar 1) (tC (.str ("" : Str))))) (xPutI (xFld c.maker (tVar 0) ("known" : Str)) (tVar 2) (tVar 1)) tNext)
    (tRet (tVar 2)))

/-- Maker.slot from 1 -/
def t_Maker_slot_1 (K : PySem.W.Frag) (c : CA) : TS :=
  tSeq (xSet c.maker (tVar 0) (tOp (rI0 fun i j => .int (i + j)) (tVar 2) (tC (.int 1))) ("many" : Str)) (t_Maker_slot_2 K c)

/-- Maker.slot -/
def t_Maker_slot (K : PySem.W.Frag) (c : CA) : TS :=
  tSeq (tAsg (xFld c.maker (tVar 0) ("many" : Str)) (gName 2)) (t_Maker_slot_1 K c)

/-- Maker.leaving -/
def t_Maker_leaving (K : PySem.W.Frag) (c : CA) : TS :=
  (tSeq (tAsg (tCB rTupL (tCons (tLc (iList K (tCB rSrtL (tCons (tCB rLstD (tCons (xFld c.maker (tVar 0) ("changed" : Str)) tNil)) tNil))) (gName 3) tYes (xTup (tCons (tVar 3) (tCons (tOp rGetS (xFld c.maker (tVar 0) ("where" : Str)) (tVar 3)) tNil))) [3]) tNil)) (gName 2))
    (tRet (xTup (tCons (tVar 1) (tCons (tVar 2) (tCons (tCB rTupL (tCons (xFld c.maker (tVar 0) ("half" : Str)) tNil)) tNil))))))

/-- Maker.fixed from 1 -/
def t_Maker_fixed_1 (K : PySem.W.Frag) (c : CA) : TS :=
  (tSeq (tDrop (tApp (xFld c.maker (tVar 0) ("rows" : Str)) (xTup (tCons (tOp rXT (tVar 1) (tC (.int 0))) (tCons (tVar 2) (tCons (tOp rXT (tVar 1) (tC (.int 1))) tNil))))))
    (tDrop (tApp (xFld c.maker (tVar 0) ("half" : Str)) (tVar 2))))

/-- Maker.fixed -/
def t_Maker_fixed (K : PySem.W.Frag) (c : CA) : TS :=
  tSeq (tAsg (xMeth c.maker ("slot" : Str) (sp_Maker_slot c) (tVar 0) (tCons (tCall sp_kind_of [] E0 (tCons (tOp rXT (tVar 1) (tC (.int 1))) tNil)) tNil)) (gName 2)) (t_Maker_fixed_1 K c)

/-- Maker.name -/
def t_Maker_name (K : PySem.W.Frag) (c : CA) : TS :=
  (tSeq (tIfS (tB (tOp (rInDS true) (tVar 1) (xFld c.maker (tVar 0) ("where" : Str)))) (tSeq (xPutS (xFld c.maker (tVar 0) ("where" : Str)) (tVar 1) (xMeth c.maker ("slot" : Str) (sp_Maker_slot c) (tVar 0) (tCons (tC (.str ("" : Str))) tNil)))
    (tDrop (tApp (xFld c.maker (tVar 0) ("rows" : Str)) (xTup (tCons (tC (.str (wd 17))) (tCons (tOp rGetS (xFld c.maker (tVar 0) ("where" : Str)) (tVar 1)) (tCons (tVar 1) tNil))))))) tNext)
    (tDrop (tApp (xFld c.maker (tVar 0) ("half" : Str)) (tOp rGetS (xFld c.maker (tVar 0) ("where" : Str)) (tVar 1)))))

/-- Maker.guess from 3 -/
def t_Maker_guess_3 (K : PySem.W.Frag) (c : CA) : TS :=
  (tSeq (tIfS (tOr (tTest (tOp rEq (tVar 3) (tC (.str ("" : Str))))) (tOr (tTest (tOp rEq (tVar 4) (tC (.str ("" : Str))))) (tTest (tOp rNe (tVar 3) (tVar 4))))) (tRet (tC .non)) tNext)
    (tRet (tVar 3)))

/-- Maker.guess from 2 -/
def t_Maker_guess_2 (K : PySem.W.Frag) (c : CA) : TS :=
  tSeq (tAsg (xGet2I (xFld c.maker (tVar 0) ("known" : Str)) (tOp rXL (xFld c.maker (tVar 0) ("half" : Str)) (tUn (rU fun i => .int (-i)) (tC (.int 1)))) (tOp rXT (tVar 2) (tC (.int 1)))) (gName 4)) (t_Maker_guess_3 K c)

/-- Maker.guess from 1 -/
def t_Maker_guess_1 (K : PySem.W.Frag) (c : CA) : TS :=
  tSeq (tAsg (xGet2I (xFld c.maker (tVar 0) ("known" : Str)) (tOp rXL (xFld c.maker (tVar 0) ("half" : Str)) (tUn (rU fun i => .int (-i)) (tC (.int 2)))) (tOp rXT (tVar 2) (tC (.int 0)))) (gName 3)) (t_Maker_guess_2 K c)

/-- Maker.guess -/
def t_Maker_guess (K : PySem.W.Frag) (c : CA) : TS :=
  tSeq (tAsg (xGet2I (xFld c.maker (tVar 0) ("guess_kinds" : Str)) (tVar 1) (xTup (tCons (tC (.str ("" : Str))) (tCons (tC (.str ("" : Str))) tNil)))) (gName 2)) (t_Maker_guess_1 K c)

/-- Maker.guard -/
def t_Maker_guard (K : PySem.W.Frag) (c : CA) : TS :=
  (tIfS (tB (tOp (rInDI true) (tVar 1) (xFld c.maker (tVar 0) ("known" : Str)))) (tSeq (tDrop (tApp (xFld c.maker (tVar 0) ("rows" : Str)) (xTup (tCons (tC (.str (wd 18))) (tCons (tVar 1) (tCons (tVar 2) (tCons (xMeth c.maker ("leaving" : Str) (sp_Maker_leaving c) (tVar 0) (tCons (tVar 3) tNil)) tNil)))))))
    (xPutI (xFld c.maker (tVar 0) ("known" : Str)) (tVar 1) (tVar 2))) tNext)

theorem rd_Notes___init__ {K : PySem.W.Frag} {c : CA} {vs : List V} {H : Hp} {Q : VK} {E : XK} (h : sp_Notes___init__ c vs H Q E) : t_Notes___init__ K c { nx := fun _ H' => Q .non H', rt := Q } (start ["_", "_", "_"] vs) H := by
  obtain ⟨o, dx, a, b, ks, ws, rfl, ho, ha, hb, k⟩ := h
  show t_Notes___init__ K c _ [some (.ref o), some (.ref a), some (.ref b)] H
  unfold t_Notes___init__; refine st_seq ?_
  push_cast [ha]
  intro ka H1 A1
  have n1 : ka ≠ o := fun e => ne_of_none ho A1.new e.symm
  replace ho := A1.k ho; replace hb := A1.k hb
  have hk := A1.at_
  push_cast [ho]
  refine ⟨lt1000 rfl, fun H2 M2 => ?_⟩
  replace hb := M2.k hb (ne_of hb ho (by simp)); replace hk := M2.k hk (ne_of hk ho (by simp)); replace ho := M2.at_
  unfold t_Notes___init___1; refine st_seq ?_
  push_cast [hb]
  intro wa H3 A3
  have n3 : ka ≠ wa := ne_of_none hk A3.new
  have n3o : wa ≠ o := fun e => ne_of_none ho A3.new e.symm
  replace ho := A3.k ho; replace hk := A3.k hk
  have hw := A3.at_
  push_cast [ho]
  refine ⟨lt1000 rfl, fun H4 M4 => ?_⟩
  replace hk := M4.k hk (ne_of hk ho (by simp)); replace hw := M4.k hw (ne_of hw ho (by simp)); replace ho := M4.at_
  push_cast
  intro ta H5 A5
  have n5 : ka ≠ ta := ne_of_none hk A5.new
  have n6 : wa ≠ ta := ne_of_none hw A5.new
  have n5o : ta ≠ o := fun e => ne_of_none ho A5.new e.symm
  replace ho := A5.k ho; replace hk := A5.k hk; replace hw := A5.k hw
  have ht := A5.at_
  push_cast [ho]
  refine ⟨lt1000 rfl, fun H6 M6 => ?_⟩
  replace hk := M6.k hk (ne_of hk ho (by simp)); replace hw := M6.k hw (ne_of hw ho (by simp)); replace ht := M6.k ht (ne_of ht ho (by simp)); replace ho := M6.at_
  have f2 : Fr [o] H H2 := A1.fr.mu M2 (by simp)
  have f4 := (f2.al A3).mu M4 (by simp)
  have no : ∀ x, x ≠ o → x ∉ [o] := fun x h => by simpa using h
  exact k ka wa ta dx H6 A1.new (f2.free A3.new (no _ n3o)) (f4.free A5.new (no _ n5o)) n3 n5 n6 ho hk hw ht ((f4.al A5).mu M6 (by simp))
theorem rd_Maker___init__ {K : PySem.W.Frag} {c : CA} {vs : List V} {H : Hp} {Q : VK} {E : XK} (h : sp_Maker___init__ c vs H Q E) : t_Maker___init__ K c { nx := fun _ H' => Q .non H', rt := Q } (start ["_", "_", "_"] vs) H := by
  obtain ⟨o, dx, no, dn, ka, wa, ta, vc, rfl, ho, hn, hon, k⟩ := h
  show t_Maker___init__ K c _ [some (.ref o), some vc, some (.ref no)] H
  have lk1 : (ntF ka wa ta).lookup ("kinds" : Str) = some (.ref ka) := rfl
  have lk2 : (ntF ka wa ta).lookup ("ways" : Str) = some (.ref wa) := rfl
  unfold t_Maker___init__; refine st_seq ?_
  push_cast [ho]
  refine ⟨lt1000 rfl, fun H1 M1 => ?_⟩
  replace hn := M1.k hn hon.symm
  replace ho := M1.at_
  unfold t_Maker___init___1; refine st_seq ?_
  push_cast [hn, lk1, ho]
  refine ⟨lt1000 rfl, fun H2 M2 => ?_⟩
  replace hn := M2.k hn hon.symm
  replace ho := M2.at_
  unfold t_Maker___init___2; refine st_seq ?_
  push_cast [hn, lk2, ho]
  refine ⟨lt1000 rfl, fun H3 M3 => ?_⟩
  replace ho := M3.at_
  have f3 : Fr [o] H H3 := ((M1.fr (by simp)).mu M2 (by simp)).mu M3 (by simp)
  have no_ : ∀ x, x ≠ o → x ∉ [o] := fun x h => by simpa using h
  unfold t_Maker___init___3; refine st_seq ?_
  push_cast
  refine ⟨(by simp only [List.length_cons, List.length_nil]; decide), fun ra H4 A4 => ?_⟩
  have nra : H ra = none := f3.free A4.new (no_ _ fun e => ne_of_none ho A4.new e.symm)
  replace ho := A4.k ho
  have hra := A4.at_
  push_cast [ho]
  refine ⟨lt1000 rfl, fun H5 M5 => ?_⟩
  replace hra := M5.k hra (ne_of hra ho (by simp)); replace ho := M5.at_
  unfold t_Maker___init___4; refine st_seq ?_
  push_cast [ho]
  refine ⟨lt1000 rfl, fun H6 M6 => ?_⟩
  replace hra := M6.k hra (ne_of hra ho (by simp)); replace ho := M6.at_
  have f6 := ((f3.al A4).mu M5 (by simp)).mu M6 (by simp)
  unfold t_Maker___init___5; refine st_seq ?_
  push_cast
  intro wh H7 A7
  have nwh : H wh = none := f6.free A7.new (no_ _ fun e => ne_of_none ho A7.new e.symm)
  replace ho := A7.k ho; replace hra := A7.k hra
  have hwh := A7.at_
  push_cast [ho]
  refine ⟨lt1000 rfl, fun H8 M8 => ?_⟩
  replace hra := M8.k hra (ne_of hra ho (by simp)); replace hwh := M8.k hwh (ne_of hwh ho (by simp)); replace ho := M8.at_
  have f8 := (f6.al A7).mu M8 (by simp)
  unfold t_Maker___init___6; refine st_seq ?_
  push_cast
  intro ch H9 A9
  have nch : H ch = none := f8.free A9.new (no_ _ fun e => ne_of_none ho A9.new e.symm)
  have e1 : wh ≠ ch := ne_of_none hwh A9.new
  replace ho := A9.k ho; replace hra := A9.k hra; replace hwh := A9.k hwh
  have hch := A9.at_
  push_cast [ho]
  refine ⟨lt1000 rfl, fun H10 M10 => ?_⟩
  replace hra := M10.k hra (ne_of hra ho (by simp)); replace hwh := M10.k hwh (ne_of hwh ho (by simp)); replace hch := M10.k hch (ne_of hch ho (by simp)); replace ho := M10.at_
  have f10 := (f8.al A9).mu M10 (by simp)
  unfold t_Maker___init___7; refine st_seq ?_
  push_cast
  refine ⟨(by simp only [List.length_cons, List.length_nil]; decide), fun hf H11 A11 => ?_⟩
  have nhf : H hf = none := f10.free A11.new (no_ _ fun e => ne_of_none ho A11.new e.symm)
  have e2 : ra ≠ hf := ne_of_none hra A11.new
  replace ho := A11.k ho; replace hra := A11.k hra; replace hwh := A11.k hwh; replace hch := A11.k hch
  have hhf := A11.at_
  push_cast [ho]
  refine ⟨lt1000 rfl, fun H12 M12 => ?_⟩
  replace hra := M12.k hra (ne_of hra ho (by simp)); replace hwh := M12.k hwh (ne_of hwh ho (by simp)); replace hch := M12.k hch (ne_of hch ho (by simp)); replace hhf := M12.k hhf (ne_of hhf ho (by simp)); replace ho := M12.at_
  have f12 := (f10.al A11).mu M12 (by simp)
  push_cast
  intro kn H13 A13
  have nkn : H kn = none := f12.free A13.new (no_ _ fun e => ne_of_none ho A13.new e.symm)
  have e3 : wh ≠ kn := ne_of_none hwh A13.new
  have e4 : ch ≠ kn := ne_of_none hch A13.new
  replace ho := A13.k ho; replace hra := A13.k hra; replace hwh := A13.k hwh; replace hch := A13.k hch; replace hhf := A13.k hhf
  have hkn := A13.at_
  push_cast [ho]
  refine ⟨lt1000 rfl, fun H14 M14 => ?_⟩
  replace hra := M14.k hra (ne_of hra ho (by simp)); replace hwh := M14.k hwh (ne_of hwh ho (by simp)); replace hch := M14.k hch (ne_of hch ho (by simp)); replace hhf := M14.k hhf (ne_of hhf ho (by simp)); replace hkn := M14.k hkn (ne_of hkn ho (by simp)); replace ho := M14.at_
  refine k ⟨o, ra, wh, ch, hf, kn, ka, wa, vc⟩ H14 rfl rfl rfl rfl ?_ ⟨⟨dx, ho⟩, ⟨[], hra, .nil⟩, hwh, hch, hhf, hkn, e2, e1, e3, e4⟩ ((f12.al A13).mu M14 (by simp))
  intro x hx
  simp only [List.mem_cons, List.not_mem_nil, or_false] at hx
  rcases hx with rfl | rfl | rfl | rfl | rfl <;> assumption
theorem rd_Maker_slot {K : PySem.W.Frag} {c : CA} {vs : List V} {H : Hp} {Q : VK} {E : XK} (h : sp_Maker_slot c vs H Q E) : t_Maker_slot K c { nx := fun _ H' => Q .non H', rt := Q } (start ["_", "_", "_"] vs) H := by
  obtain ⟨A, m, kd, rfl, ⟨⟨dx, ho⟩, ⟨xs, hr, tr⟩, hw, hc, hh, hk, n1, n2, n3, n4⟩, ok, k⟩ := h
  show t_Maker_slot K c _ [some (.ref A.o), some (.str (okd kd)), none] H
  unfold t_Maker_slot; refine st_seq ?_
  push_cast [ho, mk_many]
  unfold t_Maker_slot_1; refine st_seq ?_
  push_cast [ho]
  refine ⟨mk_len, fun H1 M1 => ?_⟩
  replace hr := M1.k hr (ne_of hr ho (by simp)); replace hw := M1.k hw (ne_of hw ho (by simp)); replace hc := M1.k hc (ne_of hc ho (by simp)); replace hh := M1.k hh (ne_of hh ho (by simp)); replace hk := M1.k hk (ne_of hk ho (by simp)); replace ho := M1.at_
  replace tr := tr.tups M1.tu
  rw [mp_many] at ho
  unfold t_Maker_slot_2; refine st_seq ?_
  cases kd with
  | none =>
    push_cast [okd]
    exact k H1 ⟨⟨dx, ho⟩, ⟨xs, hr, tr⟩, hw, hc, hh, hk, n1, n2, n3, n4⟩ (M1.fr (by simp [MA.fp]))
  | some z =>
    push_cast [okd, Kd.s_ne, ho, mk_known, hk]
    have l1 := ok.kl
    have l2 := ok.rl
    refine ⟨bigL (by rw [kvG_length]; omega), fun H2 M2 => ?_⟩
    replace hw := M2.k hw n3
    replace hc := M2.k hc n4
    replace ho := M2.k ho (ne_of ho hk (by simp)); replace hr := M2.k hr (ne_of hr hk (by simp)); replace hh := M2.k hh (ne_of hh hk (by simp)); replace hk := M2.at_
    replace tr := tr.tups M2.tu
    have e : putK (kvG nK kdV m.known) (Sum.inl ((m.many : Nat) : Int)) (V.str z.s) = kvG nK kdV (aput m.known m.many z) := putK_kvG (f := nK) (g := kdV) nK_inj m.known m.many z
    rw [e] at hk
    exact k H2 ⟨⟨dx, ho⟩, ⟨xs, hr, tr⟩, hw, hc, hh, hk, n1, n2, n3, n4⟩ ((M1.fr (by simp [MA.fp])).mu M2 (by simp [MA.fp]))
/-- the changed names, sorted -/
theorem srt_it {c : CA} {H : Hp} {A : MA} {m : Mk} {σ : L2.St} {R : VK} (M : MkAt c H A m) (ok : m.Ok) (hσ : σ[0]? = some (some (.ref A.o))) (k : ∀ p H1, H1 p = some (.lst ((srt (m.chg.map (·.1))).map V.str)) → H p = none → Fr [] H H1 → R (.ref p) H1) :
    tCB rSrtL (tCons (tCB rLstD (tCons (xFld c.maker (tVar 0) ("changed" : Str)) tNil)) tNil) σ H R := by
  obtain ⟨dx, ho⟩ := M.ins
  refine ⟨_, hσ, A.o, dx, _, _, rfl, ho, mk_changed, A.ca, _, rfl, M.chg, fun p1 H1 A1 => ?_⟩
  have e : (kvG sK V.bl m.chg).map (fun kv => kV kv.1) = (m.chg.map (·.1)).map V.str := by simp [kvG, sK, kV]
  rw [e] at A1
  have l1 := ok.cl
  refine ⟨p1, m.chg.map (·.1), rfl, A1.at_, by rw [List.length_map]; omega, fun ys p H2 hp hs A2 => ?_⟩
  rw [srt_uni ok.c8 hp hs] at A2
  exact k p H2 A2.at_ (A1.fr (S := []) |>.free A2.new (by simp)) (A1.fr.al A2)
theorem get_where {m : Mk} {x : Str} (ok : m.Ok) (h : x ∈ m.chg.map (·.1)) : valV (kvG sK nV m.whr) (.inr x) = some (nV ((aget m.whr x).getD 0)) := by
  have h1 := ok.cw x h
  have h2 : (aget m.whr x).isSome = true := aget_isSome.mpr h1
  obtain ⟨s, hs⟩ := Option.isSome_iff_exists.mp h2
  rw [show (Sum.inr x : Key) = sK x from rfl, valV_kvG sK_inj, hs]
  rfl
def LeavInv (c : CA) (H : Hp) (A : MA) (m : Mk) (p L : Addr) (i : Nat) (Hc : Hp) : Prop := ∃ xs, Hc L = some (.lst xs) ∧ TpL Hc (((srt (m.chg.map (·.1))).take i).map fun x => .tuple [.str x, .int (((aget m.whr x).getD 0 : Nat) : Int)]) xs ∧ Fr [] H Hc
theorem tpl_ints {H : Hp} : ∀ l : List Nat, TpL H (l.map fun s => .int (s : Nat)) (l.map nV)
  | [] => .nil
  | _ :: r => .cons (.int _) (tpl_ints r)
theorem rd_Maker_leaving {K : PySem.W.Frag} {c : CA} {vs : List V} {H : Hp} {Q : VK} {E : XK} (h : sp_Maker_leaving c vs H Q E) : t_Maker_leaving K c { nx := fun _ H' => Q .non H', rt := Q } (start ["_", "_", "_", "_"] vs) H := by
  obtain ⟨A, m, p, rfl, M, ok, k⟩ := h
  show t_Maker_leaving K c _ [some (.ref A.o), some (.int (p : Nat)), none, none] H
  unfold t_Maker_leaving; refine st_seq ?_
  push_cast
  refine srt_it M ok rfl fun q H1 h1 nq f1 => ?_
  have M1 := M.keep0 f1
  have ln : (srt (m.chg.map (·.1))).length ≤ 8 := by rw [(srt_perm _).length_eq, List.length_map]; exact ok.cl
  refine ⟨q, rfl, ⟨_, SqL.of h1⟩, fun L hL => ?_⟩
  have A0 := Al.of (o := HO.lst []) hL
  refine lc_it (walk_list (xs := (srt (m.chg.map (·.1))).map V.str)) (LeavInv c H1 A m q L) ⟨[], A0.at_, by simp only [List.take_zero, List.map_nil]; exact .nil, A0.fr⟩ ?_ ?_ ?_
  · rintro i Hc _ ⟨xs, g1, g2, g3⟩
    exact SqL.of (g3.keep _ _ h1 (by simp))
  · rintro i x Hc H' hi ⟨xs, g1, g2, g3⟩ ⟨rfl, hx⟩
    obtain ⟨z, hz, rfl⟩ := map_get hx
    have mz : z ∈ m.chg.map (·.1) := (srt_perm _).subset (mem_of_get hz)
    obtain ⟨⟨dx, ho⟩, _, hw, _⟩ := M1.keep0 g3
    push_cast [wipe, tYes, ho, mk_where, hw, get_where ok mz]
    refine ⟨(by simp only [List.length_cons, List.length_nil]; decide), fun t H2 A2 => ?_⟩
    have g1' := A2.k g1
    have MM := Mu.of (o := .lst (xs ++ [.ref t])) g1' fun _ z => by cases z
    refine ⟨xs, g1', bigL (by rw [g2.length, List.length_map, List.length_take]; omega), xs ++ [.ref t], MM.at_, ?_, (g3.al A2).muN MM hL⟩
    rw [take_snoc hz, List.map_append]
    exact ((g2.tups A2.tu).snoc (.tup A2.at_ (.cons (.str _) (.cons (.int _) .nil)))).tups MM.tu
  · rintro Hc ⟨xs, g1, g2, g3⟩
    rw [List.length_map, List.take_length] at g2
    have M2 := M1.keep0 g3
    push_cast [g1]
    intro t1 H2 A2
    have M3 := M2.keep0 A2.fr
    obtain ⟨⟨dx, ho⟩, _, _, _, hh, _⟩ := M3
    push_cast [ho, mk_half, hh]
    intro t2 H3 A3
    refine ⟨(by simp only [List.length_cons, List.length_nil]; decide), fun t3 H4 A4 => ?_⟩
    refine k _ _ ?_ ((((f1.trans g3).al A2).al A3).al A4)
    refine .tup A4.at_ (.cons (.int _) (.cons (.tup (A4.k (A3.k A2.at_)) ?_) (.cons (.tup (A4.k A3.at_) (tpl_ints _)) .nil)))
    simp only [Mk.exit, List.map_map]
    exact ((g2.tups A2.tu).tups A3.tu).tups A4.tu

/-- Maker.sign from 9 -/
def t_Maker_sign_9 (K : PySem.W.Frag) (c : CA) : TS :=
  (tSeq (tDrop (tApp (xFld c.maker (tVar 0) ("half" : Str)) (tVar 7)))
    (tRet (tC (.bl true))))

/-- Maker.sign from 8 -/
def t_Maker_sign_8 (K : PySem.W.Frag) (c : CA) : TS :=
  tSeq (tDrop (tApp (xFld c.maker (tVar 0) ("rows" : Str)) (xTup (tCons (tVar 1) (tCons (tVar 5) (tCons (tVar 7) (tCons (tVar 3) (tCons (tVar 4) tNil)))))))) (t_Maker_sign_9 K c)

/-- Maker.sign from 7 -/
def t_Maker_sign_7 (K : PySem.W.Frag) (c : CA) : TS :=
  tSeq (tAsg (xMeth c.maker ("slot" : Str) (sp_Maker_slot c) (tVar 0) (tCons (tVar 6) tNil)) (gName 7)) (t_Maker_sign_8 K c)

/-- Maker.sign from 6 -/
def t_Maker_sign_6 (K : PySem.W.Frag) (c : CA) : TS :=
  tSeq (xSet c.maker (tVar 0) (tSl rSL (xFld c.maker (tVar 0) ("half" : Str)) tNoPart (tPart (tUn (rU fun i => .int (-i)) (tC (.int 2))))) ("half" : Str)) (t_Maker_sign_7 K c)

/-- Maker.sign from 5 -/
def t_Maker_sign_5 (K : PySem.W.Frag) (c : CA) : TS :=
  tSeq (tIfS (tAnd (tTest (tOp rEq (tVar 5) (tC (.str (wd 24))))) (tTest (tOp rNe (tVar 1) (tC (.str (wd 5)))))) (tAsg (tC (.str (wd 24))) (gName 6)) tNext) (t_Maker_sign_6 K c)

/-- Maker.sign from 4 -/
def t_Maker_sign_4 (K : PySem.W.Frag) (c : CA) : TS :=
  tSeq (tAsg (tC (.str (wd 23))) (gName 6)) (t_Maker_sign_5 K c)

/-- Maker.sign from 3 -/
def t_Maker_sign_3 (K : PySem.W.Frag) (c : CA) : TS :=
  tSeq (tIfS (tTest (tOp rNe (tVar 1) (tC (.str (wd 6))))) (tSeq (tAsg (xMeth c.maker ("guess" : Str) (sp_Maker_guess c) (tVar 0) (tCons (tVar 2) tNil)) (gName 5))
    (tSeq (tIfS (tTest (tOp rIsN (tVar 5) (tC .non))) (tRet (tC (.bl false))) tNext)
    (tSeq (tDrop (xMeth c.maker ("guard" : Str) (sp_Maker_guard c) (tVar 0) (tCons (tVar 3) (tCons (tVar 5) (tCons (tVar 2) tNil)))))
    (tDrop (xMeth c.maker ("guard" : Str) (sp_Maker_guard c) (tVar 0) (tCons (tVar 4) (tCons (tVar 5) (tCons (tVar 2) tNil)))))))) tNext) (t_Maker_sign_4 K c)

/-- Maker.sign from 2 -/
def t_Maker_sign_2 (K : PySem.W.Frag) (c : CA) : TS :=
  tSeq (tAsg (tC (.str (wd 25))) (gName 5)) (t_Maker_sign_3 K c)

/-- Maker.sign from 1 -/
def t_Maker_sign_1 (K : PySem.W.Frag) (c : CA) : TS :=
  tSeq (tAsg (tOp rXL (xFld c.maker (tVar 0) ("half" : Str)) (tUn (rU fun i => .int (-i)) (tC (.int 1)))) (gName 4)) (t_Maker_sign_2 K c)

/-- Maker.sign -/
def t_Maker_sign (K : PySem.W.Frag) (c : CA) : TS :=
  tSeq (tAsg (tOp rXL (xFld c.maker (tVar 0) ("half" : Str)) (tUn (rU fun i => .int (-i)) (tC (.int 2)))) (gName 3)) (t_Maker_sign_1 K c)

/-- Maker.way from 4 -/
def t_Maker_way_4 (K : PySem.W.Frag) (c : CA) : TS :=
  (tSeq (tDrop (tApp (xFld c.maker (tVar 0) ("rows" : Str)) (xTup (tCons (tC (.str (wd 19))) (tCons (tVar 3) (tCons (tCB rInt1 (tCons (tVar 2) tNil)) (tCons (xMeth c.maker ("leaving" : Str) (sp_Maker_leaving c) (tVar 0) (tCons (tOp rXL (tVar 4) (tOp (rI0 fun i j => .int (i - j)) (tC (.int 1)) (tCB rInt1 (tCons (tVar 2) tNil)))) tNil)) tNil)))))))
    (tRet (tOp rXL (tVar 4) (tCB rInt1 (tCons (tVar 2) tNil)))))

/-- Maker.way from 3 -/
def t_Maker_way_3 (K : PySem.W.Frag) (c : CA) : TS :=
  tSeq (tAsg (xLst (tCons (tOp rXT (tOp rXT (xFld c.maker (tVar 0) ("code" : Str)) (tVar 1)) (tC (.int 1))) (tCons (tOp (rI0 fun i j => .int (i + j)) (tVar 1) (tC (.int 1))) tNil))) (gName 4)) (t_Maker_way_4 K c)

/-- Maker.way from 2 -/
def t_Maker_way_2 (K : PySem.W.Frag) (c : CA) : TS :=
  tSeq (tAsg (tPopL (xFld c.maker (tVar 0) ("half" : Str))) (gName 3)) (t_Maker_way_3 K c)

/-- Maker.way from 1 -/
def t_Maker_way_1 (K : PySem.W.Frag) (c : CA) : TS :=
  tSeq (tAsg (tOp rGetI (xFld c.maker (tVar 0) ("guess_ways" : Str)) (tVar 1)) (gName 2)) (t_Maker_way_2 K c)

/-- Maker.way -/
def t_Maker_way (K : PySem.W.Frag) (c : CA) : TS :=
  tSeq (tIfS (tB (tOp (rInDI true) (tVar 1) (xFld c.maker (tVar 0) ("guess_ways" : Str)))) (tRet (tUn (rU fun i => .int (-i)) (tC (.int 1)))) tNext) (t_Maker_way_1 K c)

/-- Maker.plain from 1 -/
def t_Maker_plain_1 (K : PySem.W.Frag) (c : CA) : TS :=
  (tSeq (tIfS (tOr (tTest (tOp rEq (tVar 3) (tC (.str (wd 0))))) (tTest (tOp rEq (tVar 3) (tC (.str (wd 1)))))) (tDrop (xMeth c.maker ("fixed" : Str) (sp_Maker_fixed c) (tVar 0) (tCons (tVar 1) tNil))) (tIfS (tTest (tOp rEq (tVar 3) (tC (.str (wd 2))))) (tDrop (xMeth c.maker ("name" : Str) (sp_Maker_name c) (tVar 0) (tCons (tOp rXT (tVar 1) (tC (.int 1))) tNil))) (tIfS (tTest (tOp rEq (tVar 3) (tC (.str (wd 8))))) (tSeq (xPutS (xFld c.maker (tVar 0) ("where" : Str)) (tOp rXT (tVar 1) (tC (.int 1))) (tPopL (xFld c.maker (tVar 0) ("half" : Str))))
    (xPutS (xFld c.maker (tVar 0) ("changed" : Str)) (tOp rXT (tVar 1) (tC (.int 1))) (tC (.bl true)))) (tIfS (tTest (tOp rEq (tVar 3) (tC (.str (wd 7))))) (tDrop (tApp (xFld c.maker (tVar 0) ("rows" : Str)) (xTup (tCons (tC (.str (wd 7))) (tCons (tPopL (xFld c.maker (tVar 0) ("half" : Str))) tNil))))) (tRet (xMeth c.maker ("sign" : Str) (sp_Maker_sign c) (tVar 0) (tCons (tVar 3) (tCons (tVar 2) tNil))))))))
    (tRet (tC (.bl true))))

/-- Maker.plain -/
def t_Maker_plain (K : PySem.W.Frag) (c : CA) : TS :=
  tSeq (tAsg (tOp rXT (tVar 1) (tC (.int 0))) (gName 3)) (t_Maker_plain_1 K c)

theorem half_push (s : Nat) (r : List Nat) : r.reverse.map nV ++ [nV s] = (s :: r).reverse.map nV := by simp
theorem Mk.Ok.new {m : Mk} (ok : m.Ok) (k : Option Kd) (h : m.known.length < m.rows.length ∨ k = none) : (m.new k).Ok := by
  obtain ⟨rl, kl, hl, wn, w8, cn, cw⟩ := ok
  cases k with
  | none => exact ⟨rl, kl, hl, wn, w8, cn, cw⟩
  | some z =>
    refine ⟨rl, ?_, hl, wn, w8, cn, cw⟩
    simp only [Mk.new]
    have : (aput m.known m.many z).length ≤ m.known.length + 1 := by
      unfold aput
      split
      · simp
      · simp
    rcases h with h | h
    · omega
    · cases h
theorem aput_len {α β : Type} [DecidableEq α] (m : List (α × β)) (k : α) (v : β) : (aput m k v).length ≤ m.length + 1 := by
  unfold aput
  split <;> simp
theorem rd_Maker_fixed {K : PySem.W.Frag} {c : CA} {vs : List V} {H : Hp} {Q : VK} {E : XK} (h : sp_Maker_fixed c vs H Q E) : t_Maker_fixed K c { nx := fun _ H' => Q .non H', rt := Q } (start ["_", "_", "_"] vs) H := by
  obtain ⟨A, m, m', r, v, rfl, M, ok, hr, hv, em, k⟩ := h
  show t_Maker_fixed K c _ [some (.ref A.o), some v, none] H
  obtain ⟨ra, w, y, kd, rfl, hra, hy, hm'⟩ : ∃ (ra : Addr) (w : Nat) (y : Vl) (kd : Kd), v = .ref ra ∧ H ra = some (.tup [.str (wd w), y.v]) ∧ y.kind = kd ∧
      ∃ q : Qr, m' = { m with rows := m.rows ++ [q], many := m.many + 1, known := aput m.known m.many kd, hf := m.many :: m.hf } ∧ ∀ H' b, H' b = some (.tup [.str (wd w), nV m.many, y.v]) → Tp H' q.d (.ref b) := by
    rcases hr with ⟨n, rfl⟩ | ⟨z, rfl⟩
    · obtain ⟨ra, e, h⟩ := tp2i hv
      simp only [Mk.row] at em
      cases em
      exact ⟨ra, 0, .n n, .n, e, h, rfl, _, rfl, fun H' b hb => .tup hb (.cons (.str _) (.cons (.int _) (.cons (.int _) .nil)))⟩
    · obtain ⟨ra, e, h⟩ := tp2s hv
      simp only [Mk.row] at em
      cases em
      exact ⟨ra, 1, .t z, .t, e, h, rfl, _, rfl, fun H' b hb => .tup hb (.cons (.str _) (.cons (.int _) (.cons (.str _) .nil)))⟩
  obtain ⟨q, rfl, hq⟩ := hm'
  obtain ⟨dx, ho⟩ := M.ins
  unfold t_Maker_fixed; refine st_seq ?_
  push_cast [ho, mk_slot, hra]
  refine ⟨y, rfl, ?_⟩
  refine ⟨A, m, some kd, by rw [Vl.kd_kind, hy]; rfl, M, ok, fun H1 M1 f1 => ?_⟩
  replace hra := f1.tu _ _ hra
  obtain ⟨⟨dx1, ho⟩, ⟨xs, hr, tr⟩, hw, hc, hh, hk, n1, n2, n3, n4⟩ := M1
  unfold t_Maker_fixed_1; refine st_seq ?_
  push_cast [ho, mk_rows, hr, hra]
  refine ⟨(by simp only [List.length_cons, List.length_nil]; decide), fun b H2 A2 => ?_⟩
  replace ho := A2.k ho; replace hr := A2.k hr; replace hw := A2.k hw; replace hc := A2.k hc; replace hh := A2.k hh; replace hk := A2.k hk
  replace tr := tr.tups A2.tu
  push_cast [hr]
  have l2 := ok.rl
  refine ⟨bigL (by rw [tr.length, List.length_map]; simp only [Mk.new]; omega), fun H3 M3 => ?_⟩
  replace hh := M3.k hh n1.symm
  replace ho := M3.k ho (ne_of ho hr (by simp)); replace hw := M3.k hw (ne_of hw hr (by simp)); replace hc := M3.k hc (ne_of hc hr (by simp)); replace hk := M3.k hk (ne_of hk hr (by simp)); replace hr := M3.at_
  replace tr := tr.tups M3.tu
  push_cast [ho, mk_half, hh]
  have l3 := ok.hl
  refine ⟨bigL (by simp only [List.length_map, List.length_reverse, Mk.new]; omega), fun H4 M4 => ?_⟩
  replace hr := M4.k hr n1
  replace ho := M4.k ho (ne_of ho hh (by simp)); replace hw := M4.k hw (ne_of hw hh (by simp)); replace hc := M4.k hc (ne_of hc hh (by simp)); replace hk := M4.k hk (ne_of hk hh (by simp)); replace hh := M4.at_
  replace tr := tr.tups M4.tu
  refine k H4 ⟨⟨dx1, ho⟩, ⟨_, hr, ?_⟩, hw, hc, by rw [hh]; exact congrArg (fun z => some (HO.lst z)) (half_push m.many m.hf), hk, n1, n2, n3, n4⟩ (((f1.al A2).mu M3 (by simp [MA.fp])).mu M4 (by simp [MA.fp]))
  rw [List.map_append]
  exact TpL.append tr (.cons (hq _ _ (M4.tu _ _ (M3.tu _ _ A2.at_))) .nil)
theorem rd_Maker_name {K : PySem.W.Frag} {c : CA} {vs : List V} {H : Hp} {Q : VK} {E : XK} (h : sp_Maker_name c vs H Q E) : t_Maker_name K c { nx := fun _ H' => Q .non H', rt := Q } (start ["_", "_"] vs) H := by
  obtain ⟨A, m, m', x, rfl, M, ok, hx, em, k⟩ := h
  show t_Maker_name K c _ [some (.ref A.o), some (.str x)] H
  have M0 := M
  obtain ⟨⟨dx, ho⟩, ⟨xs, hr, tr⟩, hw, hc, hh, hk, n1, n2, n3, n4⟩ := M
  have l3 := ok.hl
  have l2 := ok.rl
  have vw : valV (kvG sK nV m.whr) (Sum.inr x) = (aget m.whr x).map nV := valV_kvG sK_inj x m.whr
  unfold t_Maker_name; refine st_seq ?_
  cases e : aget m.whr x with
  | some s =>
    simp only [Mk.row, e] at em
    cases em
    rw [e] at vw
    push_cast [ho, mk_where, hw, vw, Option.map_some, Option.isSome_some, mk_half, hh]
    refine ⟨bigL (by simp only [List.length_map, List.length_reverse]; omega), fun H4 M4 => ?_⟩
    replace hr := M4.k hr n1
    replace ho := M4.k ho (ne_of ho hh (by simp)); replace hw := M4.k hw (ne_of hw hh (by simp)); replace hc := M4.k hc (ne_of hc hh (by simp)); replace hk := M4.k hk (ne_of hk hh (by simp)); replace hh := M4.at_
    replace tr := tr.tups M4.tu
    exact k H4 ⟨⟨dx, ho⟩, ⟨_, hr, tr⟩, hw, hc, by rw [hh]; exact congrArg (fun z => some (HO.lst z)) (half_push s m.hf), hk, n1, n2, n3, n4⟩ (M4.fr (by simp [MA.fp]))
  | none =>
    simp only [Mk.row, e] at em
    cases em
    rw [e] at vw
    push_cast [ho, mk_where, hw, vw, Option.map_none, Option.isSome_none]
    refine st_seq ?_
    push_cast [ho, mk_slot]
    refine ⟨A, m, none, rfl, M0, ok, fun H1 M1 f1 => ?_⟩
    obtain ⟨⟨dx1, ho⟩, ⟨xs, hr, tr⟩, hw, hc, hh, hk, n1, n2, n3, n4⟩ := M1
    simp only [Mk.new] at ho tr hw hc hh hk
    push_cast [ho, mk_where, hw]
    have wl := ok.wl
    refine ⟨bigL (by rw [kvG_length]; omega), fun H2 M2 => ?_⟩
    replace hc := M2.k hc n2.symm
    replace hk := M2.k hk n3.symm
    replace ho := M2.k ho (ne_of ho hw (by simp)); replace hr := M2.k hr (ne_of hr hw (by simp)); replace hh := M2.k hh (ne_of hh hw (by simp)); replace hw := M2.at_
    replace tr := tr.tups M2.tu
    have e1 : putK (kvG sK nV m.whr) (Sum.inr x) (V.int ((m.many : Nat) : Int)) = kvG sK nV (aput m.whr x m.many) := putK_kvG (f := sK) (g := nV) sK_inj m.whr x m.many
    rw [e1] at hw
    have vw2 : valV (kvG sK nV (aput m.whr x m.many)) (Sum.inr x) = some (nV m.many) := by
      rw [show (Sum.inr x : Key) = sK x from rfl, valV_kvG sK_inj, aget_put, if_pos rfl]; rfl
    push_cast [ho, mk_rows, mk_where, hr, hw, vw2]
    refine ⟨(by simp only [List.length_cons, List.length_nil]; decide), fun b H3 A3 => ?_⟩
    replace ho := A3.k ho; replace hr := A3.k hr; replace hw := A3.k hw; replace hc := A3.k hc; replace hh := A3.k hh; replace hk := A3.k hk
    replace tr := tr.tups A3.tu
    push_cast [hr]
    refine ⟨bigL (by rw [tr.length, List.length_map]; omega), fun H4 M4 => ?_⟩
    replace hh := M4.k hh n1.symm
    replace ho := M4.k ho (ne_of ho hr (by simp)); replace hw := M4.k hw (ne_of hw hr (by simp)); replace hc := M4.k hc (ne_of hc hr (by simp)); replace hk := M4.k hk (ne_of hk hr (by simp)); replace hr := M4.at_
    replace tr := tr.tups M4.tu
    push_cast [ho, mk_half, mk_where, hh, hw, vw2]
    refine ⟨bigL (by simp only [List.length_map, List.length_reverse]; omega), fun H5 M5 => ?_⟩
    replace hr := M5.k hr n1
    replace ho := M5.k ho (ne_of ho hh (by simp)); replace hw := M5.k hw (ne_of hw hh (by simp)); replace hc := M5.k hc (ne_of hc hh (by simp)); replace hk := M5.k hk (ne_of hk hh (by simp)); replace hh := M5.at_
    replace tr := tr.tups M5.tu
    refine k H5 ⟨⟨dx1, ho⟩, ⟨_, hr, ?_⟩, hw, hc, by rw [hh]; exact congrArg (fun z => some (HO.lst z)) (half_push m.many m.hf), hk, n1, n2, n3, n4⟩ ((((f1.mu M2 (by simp [MA.fp])).al A3).mu M4 (by simp [MA.fp])).mu M5 (by simp [MA.fp]))
    rw [List.map_append]
    exact TpL.append tr (.cons (.tup (M5.tu _ _ (M4.tu _ _ A3.at_)) (.cons (.str _) (.cons (.int _) (.cons (.str _) .nil)))) .nil)
theorem atN1 {y : Nat} {r : List Nat} : atI ((y :: r).reverse.map nV) (-1) = some (nV y) := by
  have h : ((y :: r).reverse.map nV)[r.length]? = some (nV y) := by simp
  unfold atI ixN
  simp only [List.length_map, List.length_reverse, List.length_cons]
  rw [if_neg (by omega), if_pos (by omega)]
  simp only [Option.bind_some]
  rw [show ((-1 : Int) + ((r.length + 1 : Nat) : Int)).toNat = r.length by omega]
  exact h
theorem atN2 {x y : Nat} {r : List Nat} : atI ((y :: x :: r).reverse.map nV) (-2) = some (nV x) := by
  have h : ((y :: x :: r).reverse.map nV)[r.length]? = some (nV x) := by simp
  unfold atI ixN
  simp only [List.length_map, List.length_reverse, List.length_cons]
  rw [if_neg (by omega), if_pos (by omega)]
  simp only [Option.bind_some]
  rw [show ((-2 : Int) + ((r.length + 1 + 1 : Nat) : Int)).toNat = r.length by omega]
  exact h
theorem cutN2 {x y : Nat} {r : List Nat} : cutV ((y :: x :: r).reverse.map nV) none (some (-2)) = r.reverse.map nV := by
  unfold cutV HT.sIx
  simp only [List.length_map, List.length_reverse, List.length_cons, List.drop_zero, Nat.sub_zero]
  rw [if_pos (by decide), show ((-2 : Int) + ((r.length + 1 + 1 : Nat) : Int)).toNat = r.length by omega]
  simp
theorem getN {y : Nat} {r : List Nat} : ((y :: r).reverse.map nV)[((y :: r).reverse.map nV).length - 1]? = some (nV y) := by simp
theorem dropN {y : Nat} {r : List Nat} : ((y :: r).reverse.map nV).dropLast = r.reverse.map nV := by simp
theorem vknown (m : Mk) (a : Nat) : valV (kvG nK kdV m.known) (Sum.inl ((a : Nat) : Int)) = (aget m.known a).map kdV := valV_kvG nK_inj a m.known
def okS : Option Kd → Str
  | none => ("" : Str)
  | some k => k.s
theorem okS_getD (o t : Option Kd) : (Option.map kdV o).getD (V.str (okS t)) = V.str (okS (o.or t)) := by cases o <;> rfl
theorem rd_Maker_guess {K : PySem.W.Frag} {c : CA} {vs : List V} {H : Hp} {Q : VK} {E : XK} (h : sp_Maker_guess c vs H Q E) : t_Maker_guess K c { nx := fun _ H' => Q .non H', rt := Q } (start ["_", "_", "_", "_", "_"] vs) H := by
  obtain ⟨A, m, p, gk, a, b, r, rfl, M, G, hf, k⟩ := h
  show t_Maker_guess K c _ [some (.ref A.o), some (.int (p : Nat)), none, none, none] H
  obtain ⟨⟨dx, ho⟩, ⟨xs, hr, tr⟩, hw, hc, hh, hk, n1, n2, n3, n4⟩ := M
  rw [hf] at hh
  obtain ⟨ks, hg, hgk⟩ := G.dic
  unfold t_Maker_guess; refine st_seq ?_
  push_cast [ho, mk_gk, hg]
  refine ⟨(by simp only [List.length_cons, List.length_nil]; decide), fun q H1 A1 => ?_⟩
  replace ho := A1.k ho; replace hh := A1.k hh; replace hk := A1.k hk; replace hg := A1.k hg
  push_cast [hg]
  obtain ⟨t, ht, h0⟩ : ∃ t, (valV ks (Sum.inl ((p : Nat) : Int))).getD (.ref q) = .ref t ∧ H1 t = some (.tup [.str (okS ((gk p).map (·.1))), .str (okS ((gk p).map (·.2)))]) := by
    cases e : gk p with
    | none =>
      have := (hgk p).1 e
      rw [show (Sum.inl ((p : Nat) : Int) : Key) = nK p from rfl, this]
      exact ⟨q, rfl, A1.at_⟩
    | some z =>
      obtain ⟨v, h1, h2⟩ := (hgk p).2 z.1 z.2 e
      rw [show (Sum.inl ((p : Nat) : Int) : Key) = nK p from rfl, h1]
      simp only [tp_tup, tpl_cons, tpl_nil, tp_str] at h2
      obtain ⟨t, ys, rfl, h3, _, r1, rfl, rfl, _, r2, rfl, rfl, rfl⟩ := h2
      exact ⟨t, rfl, A1.k h3⟩
  rw [ht]
  unfold t_Maker_guess_1; refine st_seq ?_
  push_cast [ho, mk_known, mk_half, hk, hh, Int.reduceNeg, atN2, nV, h0, vknown, okS_getD]
  unfold t_Maker_guess_2; refine st_seq ?_
  push_cast [ho, mk_known, mk_half, hk, hh, Int.reduceNeg, atN1, nV, h0, vknown, okS_getD]
  unfold t_Maker_guess_3; refine st_seq ?_
  have k1 := k H1 A1.fr
  unfold Mk.guess at k1
  cases e1 : (aget m.known a).or ((gk p).map (·.1)) with
  | none =>
    rw [e1] at k1
    push_cast [okS]
    exact k1
  | some x =>
    cases e2 : (aget m.known b).or ((gk p).map (·.2)) with
    | none =>
      rw [e1, e2] at k1
      push_cast [okS, Kd.s_ne]
      exact k1
    | some y =>
      rw [e1, e2] at k1
      simp only at k1
      push_cast [okS, Kd.s_ne, Kd.s_inj]
      by_cases hxy : x = y
      · rw [if_pos hxy] at k1
        subst hxy
        push_cast
        exact k1
      · rw [if_neg hxy] at k1
        exact iteT' hxy k1
theorem rd_Maker_guard {K : PySem.W.Frag} {c : CA} {vs : List V} {H : Hp} {Q : VK} {E : XK} (h : sp_Maker_guard c vs H Q E) : t_Maker_guard K c { nx := fun _ H' => Q .non H', rt := Q } (start ["_", "_", "_", "_"] vs) H := by
  obtain ⟨A, m, a, kd, p, rfl, M, ok, k⟩ := h
  show t_Maker_guard K c _ [some (.ref A.o), some (.int (a : Nat)), some (.str kd.s), some (.int (p : Nat))] H
  have M0 := M
  obtain ⟨⟨dx, ho⟩, ⟨xs, hr, tr⟩, hw, hc, hh, hk, n1, n2, n3, n4⟩ := M
  unfold Mk.guard at k
  unfold t_Maker_guard
  cases e : aget m.known a with
  | some z =>
    rw [e] at k
    push_cast [ho, mk_known, hk, vknown, e, Option.map_some, Option.isSome_some]
    exact k H M0 (.refl _ _)
  | none =>
    rw [e] at k
    push_cast [ho, mk_known, hk, vknown, e, Option.map_none, Option.isSome_none]
    refine st_seq ?_
    push_cast [ho, mk_rows, hr, mk_leaving]
    refine ⟨A, m, p, rfl, M0, ok, fun v H1 tv f1 => ?_⟩
    have M1 := M0.keep0 f1
    obtain ⟨⟨dx1, ho⟩, ⟨xs, hr, tr⟩, hw, hc, hh, hk, n1, n2, n3, n4⟩ := M1
    refine ⟨(by simp only [List.length_cons, List.length_nil]; decide), fun b H2 A2 => ?_⟩
    replace ho := A2.k ho; replace hr := A2.k hr; replace hw := A2.k hw; replace hc := A2.k hc; replace hh := A2.k hh; replace hk := A2.k hk
    replace tr := tr.tups A2.tu; replace tv := tv.tups A2.tu
    push_cast [hr]
    have l2 := ok.rl
    have l1 := ok.kl
    refine ⟨bigL (by rw [tr.length, List.length_map]; omega), fun H3 M3 => ?_⟩
    replace hh := M3.k hh n1.symm
    replace ho := M3.k ho (ne_of ho hr (by simp)); replace hw := M3.k hw (ne_of hw hr (by simp)); replace hc := M3.k hc (ne_of hc hr (by simp)); replace hk := M3.k hk (ne_of hk hr (by simp)); replace hr := M3.at_
    replace tr := tr.tups M3.tu; replace tv := tv.tups M3.tu
    push_cast [ho, mk_known, hk]
    refine ⟨bigL (by rw [kvG_length]; omega), fun H4 M4 => ?_⟩
    replace hw := M4.k hw n3
    replace hc := M4.k hc n4
    replace ho := M4.k ho (ne_of ho hk (by simp)); replace hr := M4.k hr (ne_of hr hk (by simp)); replace hh := M4.k hh (ne_of hh hk (by simp)); replace hk := M4.at_
    replace tr := tr.tups M4.tu; replace tv := tv.tups M4.tu
    have e1 : putK (kvG nK kdV m.known) (Sum.inl ((a : Nat) : Int)) (V.str kd.s) = kvG nK kdV (aput m.known a kd) := putK_kvG (f := nK) (g := kdV) nK_inj m.known a kd
    rw [e1] at hk
    refine k H4 ⟨⟨dx1, ho⟩, ⟨_, hr, ?_⟩, hw, hc, hh, hk, n1, n2, n3, n4⟩ ((((f1.sub0).al A2).mu M3 (by simp [MA.fp])).mu M4 (by simp [MA.fp]))
    rw [List.map_append]
    exact TpL.append tr (.cons (.tup (M4.tu _ _ (M3.tu _ _ A2.at_)) (.cons (.str _) (.cons (.int _) (.cons (.str _) (.cons tv .nil))))) .nil)
theorem guard_ok {m : Mk} {a : Nat} {k : Kd} {p : Nat} (ok : m.Ok) (h : m.rows.length < 100000) : (m.guard a k p).Ok ∧ (m.guard a k p).hf = m.hf ∧ (m.guard a k p).rows.length ≤ m.rows.length + 1 ∧ (m.guard a k p).many = m.many := by
  unfold Mk.guard
  split
  · exact ⟨ok, rfl, by omega, rfl⟩
  · have := aput_len m.known a k
    have := ok.kl
    exact ⟨⟨by simp only [List.length_append, len1]; omega, by simp only [List.length_append, len1]; omega, ok.hl, ok.wn, ok.w8, ok.cn, ok.cw⟩, rfl, by simp only [List.length_append, len1]; omega, rfl⟩
/-- from behind the guards on -/
theorem sign_tail {K : PySem.W.Frag} {c : CA} {H : Hp} {Q : VK} {A : MA} {m : Mk} {g : Sg} {k : Option Kd} {a b : Nat} {r : List Nat} {vp v6 : V} (M : MkAt c H A m) (ok : m.Ok) (hf : m.hf = b :: a :: r) (hl : m.rows.length ≤ 60000)
    (kk : ∀ H' A', MkAt c H' A' (m.push g k a b r) → Nxt H A A' → Fr A.fp H H' → Q (.bl true) H') :
    t_Maker_sign_4 K c { nx := fun _ H' => Q .non H', rt := Q } [some (.ref A.o), some (.str g.s), some vp, some (nV a), some (nV b), some (.str (kdS k)), some v6, none] H ∧
    t_Maker_sign_4 K c { nx := fun _ H' => Q .non H', rt := Q } [some (.ref A.o), some (.str g.s), some vp, some (nV a), some (nV b), some (.str (kdS k)), none, none] H := by
  have go : ∀ σ6 : Option V, t_Maker_sign_4 K c { nx := fun _ H' => Q .non H', rt := Q } [some (.ref A.o), some (.str g.s), some vp, some (nV a), some (nV b), some (.str (kdS k)), σ6, none] H := by
    intro σ6
    unfold t_Maker_sign_4; refine st_seq ?_
    push_cast
    unfold t_Maker_sign_5; refine st_seq ?_
    have fin : ∀ σ, σ = [some (.ref A.o), some (.str g.s), some vp, some (nV a), some (nV b), some (.str (kdS k)), some (.str (madeK g k).s), none] → t_Maker_sign_6 K c { nx := fun _ H' => Q .non H', rt := Q } σ H := by
      rintro σ rfl
      obtain ⟨⟨dx, ho⟩, ⟨xs, hr, tr⟩, hw, hc, hh, hk, n1, n2, n3, n4⟩ := M
      rw [hf] at hh
      unfold t_Maker_sign_6; refine st_seq ?_
      push_cast [ho, mk_half, hh, Int.reduceNeg, cutN2]
      intro ha' H1 A1
      have nra : A.ra ≠ ha' := ne_of_none hr A1.new
      replace ho := A1.k ho; replace hr := A1.k hr; replace hw := A1.k hw; replace hc := A1.k hc; replace hh := A1.k hh; replace hk := A1.k hk
      replace tr := tr.tups A1.tu
      have hh' := A1.at_
      push_cast [ho]
      refine ⟨mk_len, fun H2 M2 => ?_⟩
      replace hr := M2.k hr (ne_of hr ho (by simp)); replace hw := M2.k hw (ne_of hw ho (by simp)); replace hc := M2.k hc (ne_of hc ho (by simp)); replace hk := M2.k hk (ne_of hk ho (by simp)); replace hh' := M2.k hh' (ne_of hh' ho (by simp)); replace ho := M2.at_
      replace tr := tr.tups M2.tu
      rw [mp_half] at ho
      have N1 : Nxt H A { A with ha := ha' } := ⟨ha', rfl, .inr A1.new⟩
      have f2 : Fr A.fp H H2 := A1.fr.mu M2 (by simp [MA.fp])
      have MM : MkAt c H2 { A with ha := ha' } { m with hf := r } := ⟨⟨dx, ho⟩, ⟨xs, hr, tr⟩, hw, hc, hh', hk, nra, n2, n3, n4⟩
      have ok2 : ({ m with hf := r } : Mk).Ok := ⟨ok.rl, ok.kl, by have := ok.hl; rw [hf] at this; simp only [List.length_cons] at this ⊢; omega, ok.wn, ok.w8, ok.cn, ok.cw⟩
      unfold t_Maker_sign_7; refine st_seq ?_
      push_cast [ho, mk_slot]
      refine ⟨{ A with ha := ha' }, { m with hf := r }, some (madeK g k), rfl, MM, ok2, fun H3 M3 f3 => ?_⟩
      obtain ⟨⟨dx, ho⟩, ⟨xs, hr, tr⟩, hw, hc, hh, hk, n1, n2, n3, n4⟩ := M3
      simp only [Mk.new] at ho tr hw hc hh hk
      unfold t_Maker_sign_8; refine st_seq ?_
      push_cast [ho, mk_rows, hr]
      refine ⟨(by simp only [List.length_cons, List.length_nil]; decide), fun q H4 A4 => ?_⟩
      replace ho := A4.k ho; replace hr := A4.k hr; replace hw := A4.k hw; replace hc := A4.k hc; replace hh := A4.k hh; replace hk := A4.k hk
      replace tr := tr.tups A4.tu
      push_cast [hr]
      refine ⟨bigL (by rw [tr.length, List.length_map]; omega), fun H5 M5 => ?_⟩
      replace hh := M5.k hh n1.symm
      replace ho := M5.k ho (ne_of ho hr (by simp)); replace hw := M5.k hw (ne_of hw hr (by simp)); replace hc := M5.k hc (ne_of hc hr (by simp)); replace hk := M5.k hk (ne_of hk hr (by simp)); replace hr := M5.at_
      replace tr := tr.tups M5.tu
      unfold t_Maker_sign_9; refine st_seq ?_
      push_cast [ho, mk_half, hh]
      have l3 := ok2.hl
      refine ⟨bigL (by simp only [List.length_map, List.length_reverse]; simp only at l3; omega), fun H6 M6 => ?_⟩
      replace hr := M6.k hr n1
      replace ho := M6.k ho (ne_of ho hh (by simp)); replace hw := M6.k hw (ne_of hw hh (by simp)); replace hc := M6.k hc (ne_of hc hh (by simp)); replace hk := M6.k hk (ne_of hk hh (by simp)); replace hh := M6.at_
      replace tr := tr.tups M6.tu
      push_cast
      refine kk H6 { A with ha := ha' } ⟨⟨dx, ho⟩, ⟨_, hr, ?_⟩, hw, hc, by rw [hh]; exact congrArg (fun z => some (HO.lst z)) (half_push m.many r), hk, n1, n2, n3, n4⟩ N1 (f2.own N1.own (((f3.al A4).mu M5 (by simp [MA.fp])).mu M6 (by simp [MA.fp])))
      simp only [Mk.push, List.map_append]
      exact TpL.append tr (.cons (.tup (M6.tu _ _ (M5.tu _ _ A4.at_)) (.cons (.str _) (.cons (.str _) (.cons (.int _) (.cons (.int _) (.cons (.int _) .nil)))))) .nil)
    cases k with
    | none =>
      push_cast [kdS]
      exact fin _ rfl
    | some z =>
      cases z with
      | n =>
        push_cast [kdS, Kd.s]
        exact fin _ rfl
      | t =>
        push_cast [kdS, Kd.s, sg_eq g 5 (by decide)]
        cases g with
        | less => push_cast [Sg.ix]; exact fin _ rfl
        | add => push_cast [Sg.ix]; exact fin _ rfl
        | sub => push_cast [Sg.ix]; exact fin _ rfl
        | same => push_cast [Sg.ix]; exact fin _ rfl
  exact ⟨go _, go _⟩
theorem rd_Maker_sign {K : PySem.W.Frag} {c : CA} {vs : List V} {H : Hp} {Q : VK} {E : XK} (h : sp_Maker_sign c vs H Q E) : t_Maker_sign K c { nx := fun _ H' => Q .non H', rt := Q } (start ["_", "_", "_", "_", "_", "_", "_", "_"] vs) H := by
  obtain ⟨A, m, gk, p, g, rfl, M, ok, G, ng, hn, _, hl, k1, k2⟩ := h
  show t_Maker_sign K c _ [some (.ref A.o), some (.str g.s), some (.int (p : Nat)), none, none, none, none, none] H
  have M0 := M
  obtain ⟨⟨dx, ho⟩, ⟨xs, hr, tr⟩, hw, hc, hh, hk, n1, n2, n3, n4⟩ := M
  match hf : m.hf, hn with
  | b :: a :: r, _ =>
    rw [hf] at hh
    simp only [Mk.row, hf] at k1 k2
    unfold t_Maker_sign; refine st_seq ?_
    push_cast [ho, mk_half, hh, Int.reduceNeg, atN2]
    unfold t_Maker_sign_1; refine st_seq ?_
    push_cast [ho, mk_half, hh, Int.reduceNeg, atN1]
    unfold t_Maker_sign_2; refine st_seq ?_
    push_cast
    unfold t_Maker_sign_3; refine st_seq ?_
    push_cast [sg_eq g 6 (by decide)]
    by_cases hs : g = .same
    · subst hs
      simp only [if_true] at k1
      push_cast [Sg.ix]
      exact (sign_tail (v6 := .non) (k := none) M0 ok hf (by omega) fun H' A' M' N' f' => k1 H' A' _ rfl M' N' f').2
    · have e6 : ¬ g.ix = 6 := by cases g <;> simp_all [Sg.ix]
      simp only [if_neg hs] at k1 k2
      refine iteT' e6 ?_
      refine st_seq ?_
      push_cast [ho, mk_guess]
      refine ⟨A, m, p, gk, a, b, r, rfl, M0, G, hf, fun H1 f1 => ?_⟩
      have M1 := M0.keep0 f1
      refine st_seq ?_
      cases e : m.guess (gk p) a b with
      | none =>
        rw [e] at k2
        push_cast [okV]
        exact k2 H1 rfl M1 f1.sub0
      | some kd =>
        rw [e] at k1
        push_cast [okV]
        obtain ⟨o1, h1, r1, m1⟩ := guard_ok (a := a) (k := kd) (p := p) ok (by omega)
        obtain ⟨o2, h2, r2, m2⟩ := guard_ok (a := b) (k := kd) (p := p) o1 (by omega)
        obtain ⟨dx1, ho1⟩ := M1.ins
        refine st_seq ?_
        push_cast [ho1, mk_guard]
        refine ⟨A, m, a, kd, p, rfl, M1, ok, fun H2 M2 f2 => ?_⟩
        obtain ⟨dx2, ho2⟩ := M2.ins
        push_cast [ho2, mk_guard]
        refine ⟨A, m.guard a kd p, b, kd, p, rfl, M2, o1, fun H3 M3 f3 => ?_⟩
        have F3 : Fr A.fp H H3 := (f1.sub0.trans f2).trans f3
        refine (sign_tail (v6 := .non) (k := some kd) M3 o2 (by rw [h2, h1, hf]) (by omega) fun H' A' M' N' f' => ?_).2
        refine k1 H' A' _ rfl M' ?_ (F3.trans f')
        obtain ⟨ha', e1, e2⟩ := N'
        refine ⟨ha', e1, e2.elim .inl fun z => ?_⟩
        by_cases hz : ha' ∈ A.fp
        · exact absurd z (M3.there _ hz)
        · exact .inr (F3.free z hz)

/-- Maker.closed -/
def t_Maker_closed (K : PySem.W.Frag) (c : CA) : TS :=
  (tSeq (tFor (iList K (tCB rSrtL (tCons (tCB rLstD (tCons (xFld c.maker (tVar 0) ("changed" : Str)) tNil)) tNil))) (gName 1)
    (tDrop (tApp (xFld c.maker (tVar 0) ("rows" : Str)) (xTup (tCons (tC (.str (wd 20))) (tCons (tVar 1) (tCons (tOp rGetS (xFld c.maker (tVar 0) ("where" : Str)) (tVar 1)) tNil)))))))
    (tDrop (tApp (xFld c.maker (tVar 0) ("rows" : Str)) (xTup (tCons (tC (.str (wd 21))) tNil)))))

/-- Maker.follow from 2 -/
def t_Maker_follow_2 (K : PySem.W.Frag) (c : CA) : TS :=
  (tSeq (tWhile (tTest (tOp rNe (tVar 3) (tVar 1)))
    (tSeq (tAsg (tOp rXT (xFld c.maker (tVar 0) ("code" : Str)) (tVar 3)) (gName 4))
    (tSeq (tAsg (tOp (rI0 fun i j => .int (i + j)) (tVar 3) (tC (.int 1))) (gName 5))
    (tSeq (tAsg (tAndV (tOp (rI0 fun i j => .bl (decide (i < j))) (tCB rLenL (tCons (xFld c.maker (tVar 0) ("rows" : Str)) tNil)) (tVar 2)) (tOp (rInT true) (tOp rXT (tVar 4) (tC (.int 0))) (xTup (tCons (tC (.str (wd 11))) (tCons (tC (.str (wd 12))) tNil))))) (gName 6))
    (tSeq (tIfS (tAnd (tB (tVar 6)) (tTest (tOp rEq (tOp rXT (tVar 4) (tC (.int 0))) (tC (.str (wd 10)))))) (tAsg (tOp rXT (tVar 4) (tC (.int 1))) (gName 5)) (tIfS (tAnd (tB (tVar 6)) (tTest (tOp rEq (tOp rXT (tVar 4) (tC (.int 0))) (tC (.str (wd 9)))))) (tSeq (tAsg (xMeth c.maker ("way" : Str) (sp_Maker_way c) (tVar 0) (tCons (tVar 3) tNil)) (gName 5))
    (tAsg (tOp (rI0 fun i j => .bl (decide (j ≤ i))) (tVar 5) (tC (.int 0))) (gName 6))) (tIfS (tB (tVar 6)) (tAsg (xMeth c.maker ("plain" : Str) (sp_Maker_plain c) (tVar 0) (tCons (tVar 4) (tCons (tVar 3) tNil))) (gName 6)) tNext)))
    (tSeq (tIfS (tNot (tB (tVar 6))) (tSeq (tDrop (tApp (xFld c.maker (tVar 0) ("rows" : Str)) (xTup (tCons (tC (.str (wd 22))) (tCons (xMeth c.maker ("leaving" : Str) (sp_Maker_leaving c) (tVar 0) (tCons (tVar 3) tNil)) tNil)))))
    tRetN) tNext)
    (tAsg (tVar 5) (gName 3))))))))
    (tDrop (xMeth c.maker ("closed" : Str) (sp_Maker_closed c) (tVar 0) tNil)))

/-- Maker.follow from 1 -/
def t_Maker_follow_1 (K : PySem.W.Frag) (c : CA) : TS :=
  tSeq (tAsg (tOp (rI0 fun i j => .int (i + j)) (tVar 1) (tC (.int 1))) (gName 3)) (t_Maker_follow_2 K c)

/-- Maker.follow -/
def t_Maker_follow (K : PySem.W.Frag) (c : CA) : TS :=
  tSeq (tDrop (tApp (xFld c.maker (tVar 0) ("rows" : Str)) (xTup (tCons (tC (.str (wd 16))) tNil)))) (t_Maker_follow_1 K c)

/-- quick_rows from 2 -/
def t_quick_rows_2 (K : PySem.W.Frag) (c : CA) : TS :=
  (tSeq (tDrop (xMeth c.maker ("follow" : Str) (sp_Maker_follow c) (tVar 4) (tCons (tVar 1) (tCons (tVar 3) tNil))))
    (tRet (tCB rTupL (tCons (xFld c.maker (tVar 4) ("rows" : Str)) tNil))))

/-- quick_rows from 1 -/
def t_quick_rows_1 (K : PySem.W.Frag) (c : CA) : TS :=
  tSeq (tAsg (xMake c.maker (sp_Maker___init__ c) (tCons (tVar 0) (tCons (tVar 2) tNil))) (gName 4)) (t_quick_rows_2 K c)

/-- quick_rows -/
def t_quick_rows (K : PySem.W.Frag) (c : CA) : TS :=
  tSeq (tIfS (tOr (tNot (tTest (tChain (rI0 fun i j => .bl (decide (i ≤ j))) (rI0 fun i j => .bl (decide (i < j))) (tC (.int 0)) (tVar 1) (tCB rLenT (tCons (tVar 0) tNil))))) (tTest (tOp rNe (tOp rXT (tOp rXT (tVar 0) (tVar 1)) (tC (.int 0))) (tC (.str (wd 11)))))) tNever tNext) (t_quick_rows_1 K c)

theorem code_at {H : Hp} {code : List Rw} {v : V} {p : Nat} {r : Rw} (t : Tp H (rowsD code) v) (h : code[p]? = some r) : ∃ a rows y, v = .ref a ∧ H a = some (.tup rows) ∧ rows.length = code.length ∧ atI rows ((p : Nat) : Int) = some y ∧ Tp H r.d y := by
  unfold rowsD at t
  rw [tp_tup] at t
  obtain ⟨a, xs, rfl, ha, hx⟩ := t
  obtain ⟨y, hy, ty⟩ := hx.get (i := p) (d := r.d) (by rw [List.getElem?_map, h]; rfl)
  exact ⟨a, xs, y, rfl, ha, by rw [hx.length, List.length_map], atI_nat hy, ty⟩
theorem vway {H : Hp} {a : Addr} {gw : Nat → Option Bool} (w : WayAt H a gw) : ∃ ks, H a = some (.dK ks) ∧ ∀ p : Nat, valV ks (Sum.inl ((p : Nat) : Int)) = (gw p).map V.bl := w.dic
theorem rd_Maker_way {K : PySem.W.Frag} {c : CA} {vs : List V} {H : Hp} {Q : VK} {E : XK} (h : sp_Maker_way c vs H Q E) : t_Maker_way K c { nx := fun _ H' => Q .non H', rt := Q } (start ["_", "_", "_", "_", "_"] vs) H := by
  obtain ⟨A, m, gw, p, q, s, h', code, rfl, M, ok, W, ng, tc, hp, hf, hl, k1, k2⟩ := h
  show t_Maker_way K c _ [some (.ref A.o), some (.int (p : Nat)), none, none, none] H
  have M0 := M
  obtain ⟨⟨dx, ho⟩, ⟨xs, hr, tr⟩, hw, hc, hh, hk, n1, n2, n3, n4⟩ := M
  rw [hf] at hh
  obtain ⟨ks, hg, hgw⟩ := vway W
  unfold t_Maker_way; refine st_seq ?_
  cases e : gw p with
  | none =>
    push_cast [ho, mk_gw, hg, hgw, e, Option.map_none, Option.isSome_none]
    exact k1 e H M0 (.refl _ _)
  | some w =>
    push_cast [ho, mk_gw, hg, hgw, e, Option.map_some, Option.isSome_some]
    unfold t_Maker_way_1; refine st_seq ?_
    push_cast [ho, mk_gw, hg, hgw, e, Option.map_some]
    unfold t_Maker_way_2; refine st_seq ?_
    push_cast [ho, mk_half, hh, getN]
    intro H1 M1
    replace hr := M1.k hr n1
    replace ho := M1.k ho (ne_of ho hh (by simp)); replace hw := M1.k hw (ne_of hw hh (by simp)); replace hc := M1.k hc (ne_of hc hh (by simp)); replace hk := M1.k hk (ne_of hk hh (by simp)); replace hh := M1.at_
    replace tr := tr.tups M1.tu; replace tc := tc.tups M1.tu
    rw [dropN] at hh
    obtain ⟨ca, rows, y, ec, hca, _, hix, ty⟩ := code_at tc hp
    obtain ⟨ra, rfl, hra⟩ := tp2i ty
    have f1 : Fr A.fp H H1 := M1.fr (by simp [MA.fp])
    have MM : MkAt c H1 A { m with hf := h' } := ⟨⟨dx, ho⟩, ⟨xs, hr, tr⟩, hw, hc, hh, hk, n1, n2, n3, n4⟩
    have ok1 : ({ m with hf := h' } : Mk).Ok := ⟨ok.rl, ok.kl, by have := ok.hl; rw [hf] at this; simp only [List.length_cons] at this ⊢; omega, ok.wn, ok.w8, ok.cn, ok.cw⟩
    unfold t_Maker_way_3; refine st_seq ?_
    push_cast [ho, mk_code, ec, hca, hix, hra]
    refine ⟨(by simp only [List.length_cons, List.length_nil]; decide), fun g H2 A2 => ?_⟩
    have ng1 : A.ra ≠ g := ne_of_none hr A2.new
    replace ho := A2.k ho; replace hr := A2.k hr
    have hgl := A2.at_
    have M2 := MM.keep0 A2.fr
    unfold t_Maker_way_4; refine st_seq ?_
    push_cast [ho, mk_rows, hr, nV]
    have e1 : atI [V.int ((q : Nat) : Int), V.int ((p : Int) + 1)] (1 - if w = true then 1 else 0) = some (.int ((if w then q else p + 1 : Nat) : Int)) := by
      cases w
      · exact atI1 _ _ _
      · exact atI0 _ _
    have e2 : atI [V.int ((q : Nat) : Int), V.int ((p : Int) + 1)] (if w = true then 1 else 0) = some (.int ((if w then p + 1 else q : Nat) : Int)) := by
      cases w
      · exact atI0 _ _
      · exact atI1 _ _ _
    push_cast [hgl, e1, mk_leaving]
    refine ⟨A, { m with hf := h' }, if w then q else p + 1, rfl, M2, ok1, fun v H3 tv f3 => ?_⟩
    have M3 := M2.keep0 f3
    have hgl3 := f3.keep _ _ hgl (by simp)
    obtain ⟨⟨dx, ho⟩, ⟨xs, hr, tr⟩, hw, hc, hh, hk, n1, n2, n3, n4⟩ := M3
    refine ⟨(by simp only [List.length_cons, List.length_nil]; decide), fun b H4 A4 => ?_⟩
    replace ho := A4.k ho; replace hr := A4.k hr; replace hw := A4.k hw; replace hc := A4.k hc; replace hh := A4.k hh; replace hk := A4.k hk; replace hgl3 := A4.k hgl3
    replace tr := tr.tups A4.tu; replace tv := tv.tups A4.tu
    push_cast [hr]
    refine ⟨bigL (by rw [tr.length, List.length_map]; simp only; omega), fun H5 M5 => ?_⟩
    replace hh := M5.k hh n1.symm
    replace hgl3 := M5.k hgl3 ng1.symm
    replace ho := M5.k ho (ne_of ho hr (by simp)); replace hw := M5.k hw (ne_of hw hr (by simp)); replace hc := M5.k hc (ne_of hc hr (by simp)); replace hk := M5.k hk (ne_of hk hr (by simp)); replace hr := M5.at_
    replace tr := tr.tups M5.tu; replace tv := tv.tups M5.tu
    push_cast [hgl3, e2]
    refine k2 w e H5 ⟨⟨dx, ho⟩, ⟨_, hr, ?_⟩, hw, hc, hh, hk, n1, n2, n3, n4⟩ ((((f1.al A2).trans f3.sub0).al A4).mu M5 (by simp [MA.fp]))
    rw [List.map_append]
    refine TpL.append tr (.cons (.tup (M5.tu _ _ A4.at_) (.cons (.str _) (.cons (.int _) (.cons ?_ (.cons tv .nil))))) .nil)
    cases w <;> exact .int _
theorem puts_len (m : Mk) (ok : m.Ok) : (srt (m.chg.map (·.1))).length ≤ 8 := by rw [(srt_perm _).length_eq, List.length_map]; exact ok.cl
def CloInv (c : CA) (H : Hp) (A : MA) (m : Mk) (q : Addr) (i : Nat) (σ : L2.St) (Hc : Hp) : Prop := ∃ σ1, σ = [some (.ref A.o), σ1] ∧ MkAt c Hc A { m with rows := m.rows ++ (m.puts.take i) } ∧ Hc q = some (.lst ((srt (m.chg.map (·.1))).map V.str)) ∧ Fr A.fp H Hc
theorem rd_Maker_closed {K : PySem.W.Frag} {c : CA} {vs : List V} {H : Hp} {Q : VK} {E : XK} (h : sp_Maker_closed c vs H Q E) : t_Maker_closed K c { nx := fun _ H' => Q .non H', rt := Q } (start ["_", "_"] vs) H := by
  obtain ⟨A, m, rfl, M, ok, k⟩ := h
  show t_Maker_closed K c _ [some (.ref A.o), none] H
  have ln := puts_len m ok
  have lp : m.puts.length ≤ 8 := by unfold Mk.puts; simpa using ln
  have l2 := ok.rl
  unfold t_Maker_closed; refine st_seq ?_
  refine srt_it M ok rfl fun q H1 h1 nq f1 => ?_
  have nqf : q ∉ A.fp := fun hz => M.there _ hz nq
  refine ⟨q, rfl, ⟨_, SqL.of h1⟩, for_it (walk_list (xs := (srt (m.chg.map (·.1))).map V.str)) (CloInv c H A m q) ⟨none, rfl, by simpa using M.keep0 f1, h1, f1.sub0⟩ ?_ ?_ ?_⟩
  · rintro i σ Hc _ ⟨σ1, rfl, _, g2, _⟩
    exact SqL.of g2
  · rintro i x σ Hc H' hi ⟨σ1, rfl, Mc, g2, g3⟩ ⟨rfl, hx⟩
    obtain ⟨z, hz, rfl⟩ := map_get hx
    have mz : z ∈ m.chg.map (·.1) := (srt_perm _).subset (mem_of_get hz)
    obtain ⟨⟨dx, ho⟩, ⟨xs, hr, tr⟩, hw, hc, hh, hk, n1, n2, n3, n4⟩ := Mc
    have gw := get_where ok mz
    show tDrop _ _ [some (.ref A.o), some (.str z)] H'
    push_cast [ho, mk_rows, hr, mk_where, hw, gw]
    refine ⟨(by simp only [List.length_cons, List.length_nil]; decide), fun b H2 A2 => ?_⟩
    replace ho := A2.k ho; replace hr := A2.k hr; replace hw := A2.k hw; replace hc := A2.k hc; replace hh := A2.k hh; replace hk := A2.k hk; replace g2 := A2.k g2
    replace tr := tr.tups A2.tu
    push_cast [hr]
    refine ⟨bigL (by rw [tr.length, List.length_map]; simp only [List.length_append, List.length_take]; omega), fun H3 M3 => ?_⟩
    replace hh := M3.k hh n1.symm
    replace g2 := M3.k g2 fun e => nqf (by rw [e]; simp [MA.fp])
    replace ho := M3.k ho (ne_of ho hr (by simp)); replace hw := M3.k hw (ne_of hw hr (by simp)); replace hc := M3.k hc (ne_of hc hr (by simp)); replace hk := M3.k hk (ne_of hk hr (by simp)); replace hr := M3.at_
    replace tr := tr.tups M3.tu
    refine ⟨_, rfl, ⟨⟨dx, ho⟩, ⟨_, hr, ?_⟩, hw, hc, hh, hk, n1, n2, n3, n4⟩, g2, (g3.al A2).mu M3 (by simp [MA.fp])⟩
    have e : m.puts[i]? = some (.put z ((aget m.whr z).getD 0)) := by
      unfold Mk.puts
      rw [List.getElem?_map, hz]; rfl
    simp only
    rw [take_snoc e, ← List.append_assoc, List.map_append]
    exact TpL.append tr (.cons (.tup (M3.tu _ _ A2.at_) (.cons (.str _) (.cons (.str _) (.cons (.int _) .nil)))) .nil)
  · rintro σ Hc ⟨σ1, rfl, Mc, g2, g3⟩
    have e : m.puts.take ((srt (m.chg.map (·.1))).map V.str).length = m.puts := by
      rw [List.take_of_length_le]
      unfold Mk.puts
      simp
    rw [e] at Mc
    obtain ⟨⟨dx, ho⟩, ⟨xs, hr, tr⟩, hw, hc, hh, hk, n1, n2, n3, n4⟩ := Mc
    push_cast [ho, mk_rows, hr]
    refine ⟨(by simp only [List.length_cons, List.length_nil]; decide), fun b H2 A2 => ?_⟩
    replace ho := A2.k ho; replace hr := A2.k hr; replace hw := A2.k hw; replace hc := A2.k hc; replace hh := A2.k hh; replace hk := A2.k hk
    replace tr := tr.tups A2.tu
    push_cast [hr]
    refine ⟨bigL (by rw [tr.length, List.length_map]; simp only [List.length_append, Mk.puts, List.length_map]; omega), fun H3 M3 => ?_⟩
    replace hh := M3.k hh n1.symm
    replace ho := M3.k ho (ne_of ho hr (by simp)); replace hw := M3.k hw (ne_of hw hr (by simp)); replace hc := M3.k hc (ne_of hc hr (by simp)); replace hk := M3.k hk (ne_of hk hr (by simp)); replace hr := M3.at_
    replace tr := tr.tups M3.tu
    refine k H3 ⟨⟨dx, ho⟩, ⟨_, hr, ?_⟩, hw, hc, hh, hk, n1, n2, n3, n4⟩ ((g3.al A2).mu M3 (by simp [MA.fp]))
    simp only
    rw [List.map_append]
    exact TpL.append tr (.cons (.tup (M3.tu _ _ A2.at_) (.cons (.str _) .nil)) .nil)
theorem rd_Maker_plain {K : PySem.W.Frag} {c : CA} {vs : List V} {H : Hp} {Q : VK} {E : XK} (h : sp_Maker_plain c vs H Q E) : t_Maker_plain K c { nx := fun _ H' => Q .non H', rt := Q } (start ["_", "_", "_", "_"] vs) H := by
  obtain ⟨A, m, gk, p, r, v, rfl, hv, pr, M, ok, G, ng, hn, hok, hl, k1, k2⟩ := h
  show t_Maker_plain K c _ [some (.ref A.o), some v, some (.int (p : Nat)), none] H
  have M0 := M
  obtain ⟨⟨dx, ho⟩, ⟨xs, hr, tr⟩, hw, hc, hh, hk, n1, n2, n3, n4⟩ := M
  unfold t_Maker_plain; refine st_seq ?_
  cases r with
  | num n =>
    have hv0 := hv
    obtain ⟨ra, rfl, hra⟩ := tp2i hv
    push_cast [hra]
    unfold t_Maker_plain_1; refine st_seq ?_
    push_cast [ho, mk_fixed]
    exact ⟨A, m, _, .num n, _, rfl, M0, ok, .inl ⟨n, rfl⟩, hv0, rfl, fun H' M' f' => k1 H' A _ rfl M' (.refl _ _) f'⟩
  | text n =>
    have hv0 := hv
    obtain ⟨ra, rfl, hra⟩ := tp2s hv
    push_cast [hra]
    unfold t_Maker_plain_1; refine st_seq ?_
    push_cast [ho, mk_fixed]
    exact ⟨A, m, _, .text n, _, rfl, M0, ok, .inr ⟨n, rfl⟩, hv0, rfl, fun H' M' f' => k1 H' A _ rfl M' (.refl _ _) f'⟩
  | name x =>
    obtain ⟨ra, rfl, hra⟩ := tp2s hv
    push_cast [hra]
    unfold t_Maker_plain_1; refine st_seq ?_
    push_cast [ho, mk_name, hra]
    obtain ⟨m', hm'⟩ : ∃ m', m.row none 0 (.name x) = some m' := by
      simp only [Mk.row]
      split <;> exact ⟨_, rfl⟩
    exact ⟨A, m, m', x, rfl, M0, ok, hok, hm', fun H' M' f' => k1 H' A m' hm' M' (.refl _ _) f'⟩
  | set x =>
    obtain ⟨ra, rfl, hra⟩ := tp2s hv
    match hf : m.hf, hn with
    | s :: h', _ =>
      rw [hf] at hh
      simp only [Mk.row, hf] at k1
      push_cast [hra]
      unfold t_Maker_plain_1; refine st_seq ?_
      push_cast
      refine st_seq ?_
      push_cast [ho, mk_half, hh, getN]
      intro H1 M1
      replace hr := M1.k hr n1
      replace ho := M1.k ho (ne_of ho hh (by simp)); replace hw := M1.k hw (ne_of hw hh (by simp)); replace hc := M1.k hc (ne_of hc hh (by simp)); replace hk := M1.k hk (ne_of hk hh (by simp)); replace hra := M1.k hra (ne_of hra hh (by simp)); replace hh := M1.at_
      replace tr := tr.tups M1.tu
      rw [dropN] at hh
      push_cast [ho, mk_where, hw, hra]
      have wl := ok.wl
      have cl := ok.cl
      refine ⟨bigL (by rw [kvG_length]; omega), fun H2 M2 => ?_⟩
      replace hc := M2.k hc n2.symm
      replace hk := M2.k hk n3.symm
      replace ho := M2.k ho (ne_of ho hw (by simp)); replace hr := M2.k hr (ne_of hr hw (by simp)); replace hh := M2.k hh (ne_of hh hw (by simp)); replace hra := M2.k hra (ne_of hra hw (by simp)); replace hw := M2.at_
      replace tr := tr.tups M2.tu
      have e1 : putK (kvG sK nV m.whr) (Sum.inr x) (nV s) = kvG sK nV (aput m.whr x s) := putK_kvG (f := sK) (g := nV) sK_inj m.whr x s
      rw [e1] at hw
      push_cast [ho, mk_changed, hc, hra]
      refine ⟨bigL (by rw [kvG_length]; omega), fun H3 M3 => ?_⟩
      replace hw := M3.k hw n2
      replace hk := M3.k hk n4.symm
      replace ho := M3.k ho (ne_of ho hc (by simp)); replace hr := M3.k hr (ne_of hr hc (by simp)); replace hh := M3.k hh (ne_of hh hc (by simp)); replace hc := M3.at_
      replace tr := tr.tups M3.tu
      have e2 : putK (kvG sK V.bl m.chg) (Sum.inr x) (V.bl true) = kvG sK V.bl (aput m.chg x true) := putK_kvG (f := sK) (g := V.bl) sK_inj m.chg x true
      rw [e2] at hc
      push_cast
      exact k1 H3 A _ rfl ⟨⟨dx, ho⟩, ⟨_, hr, tr⟩, hw, hc, hh, hk, n1, n2, n3, n4⟩ (.refl _ _) (((M1.fr (by simp [MA.fp])).mu M2 (by simp [MA.fp])).mu M3 (by simp [MA.fp]))
  | say =>
    obtain ⟨ra, rfl, hra⟩ := tp1 hv
    match hf : m.hf, hn with
    | s :: h', _ =>
      rw [hf] at hh
      simp only [Mk.row, hf] at k1
      push_cast [hra]
      unfold t_Maker_plain_1; refine st_seq ?_
      push_cast [ho, mk_rows, hr, mk_half, hh, getN]
      intro H1 M1
      replace hr := M1.k hr n1
      replace ho := M1.k ho (ne_of ho hh (by simp)); replace hw := M1.k hw (ne_of hw hh (by simp)); replace hc := M1.k hc (ne_of hc hh (by simp)); replace hk := M1.k hk (ne_of hk hh (by simp)); replace hh := M1.at_
      replace tr := tr.tups M1.tu
      rw [dropN] at hh
      refine ⟨(by simp only [List.length_cons, List.length_nil]; decide), fun b H2 A2 => ?_⟩
      replace ho := A2.k ho; replace hr := A2.k hr; replace hw := A2.k hw; replace hc := A2.k hc; replace hh := A2.k hh; replace hk := A2.k hk
      replace tr := tr.tups A2.tu
      push_cast [hr]
      refine ⟨bigL (by rw [tr.length, List.length_map]; omega), fun H3 M3 => ?_⟩
      replace hh := M3.k hh n1.symm
      replace ho := M3.k ho (ne_of ho hr (by simp)); replace hw := M3.k hw (ne_of hw hr (by simp)); replace hc := M3.k hc (ne_of hc hr (by simp)); replace hk := M3.k hk (ne_of hk hr (by simp)); replace hr := M3.at_
      replace tr := tr.tups M3.tu
      push_cast
      refine k1 H3 A _ rfl ⟨⟨dx, ho⟩, ⟨_, hr, ?_⟩, hw, hc, hh, hk, n1, n2, n3, n4⟩ (.refl _ _) (((M1.fr (by simp [MA.fp])).al A2).mu M3 (by simp [MA.fp]))
      simp only [List.map_append]
      exact TpL.append tr (.cons (.tup (M3.tu _ _ A2.at_) (.cons (.str _) (.cons (.int _) .nil))) .nil)
  | op g =>
    obtain ⟨ra, rfl, hra⟩ := tp1 hv
    have S0 : (g.s = wd 0) = False ∧ (g.s = wd 1) = False ∧ (g.s = wd 2) = False ∧ (g.s = wd 7) = False ∧ (g.s = wd 8) = False := by
      have hg : 3 ≤ g.ix ∧ g.ix ≤ 6 := by cases g <;> decide
      simp only [sg_eq g _ (show 0 < 42 by decide), sg_eq g _ (show 1 < 42 by decide), sg_eq g _ (show 2 < 42 by decide), sg_eq g _ (show 7 < 42 by decide), sg_eq g _ (show 8 < 42 by decide)]
      refine ⟨?_, ?_, ?_, ?_, ?_⟩ <;> simp only [eq_iff_iff, iff_false] <;> omega
    obtain ⟨z0, z1, z2, z7, z8⟩ := S0
    push_cast [hra]
    unfold t_Maker_plain_1; refine st_seq ?_
    push_cast [z0, z1, z2, z7, z8, ho, mk_sign]
    exact ⟨A, m, gk, p, g, rfl, M0, ok, G, ng, hn, hok, hl, k1, k2⟩
  | «unless» q => exact pr.elim
  | go z => exact pr.elim
  | top => exact pr.elim
  | fin => exact pr.elim

def Rw.puts : Rw → Nat
  | .num _ => 1
  | .text _ => 1
  | .name _ => 1
  | .op _ => 1
  | _ => 0
theorem aput_mem_keys {α β : Type} [DecidableEq α] (m : List (α × β)) (k x : α) (v : β) : x ∈ (aput m k v).map (·.1) ↔ x = k ∨ x ∈ m.map (·.1) := by
  rw [aput_keys]
  split
  · next h => exact ⟨.inr, fun z => z.elim (fun e => by rw [e]; exact h) id⟩
  · rw [List.mem_append, List.mem_singleton]; exact or_comm
theorem row_ok {m m' : Mk} {told : Option (Kd × Kd)} {p : Nat} {r : Rw} (h : m.row told p r = some m') (ok : m.Ok) (hv : r.okv) (hl : m.rows.length ≤ 60000) (hh : m.hf.length ≤ 900) :
    m'.Ok ∧ m'.rows.length ≤ m.rows.length + 3 ∧ m'.hf.length + r.need = m.hf.length + r.puts := by
  obtain ⟨rl, kl, hll, wn, w8, cn, cw⟩ := ok
  cases r with
  | num n =>
    simp only [Mk.row] at h
    cases h
    have := aput_len m.known m.many Kd.n
    exact ⟨⟨by simp only [List.length_append, len1]; omega, by simp only [List.length_append, len1]; omega, by simp only [List.length_cons]; omega, wn, w8, cn, cw⟩, by simp only [List.length_append, len1]; omega, by simp [Rw.need, Rw.puts]⟩
  | text n =>
    simp only [Mk.row] at h
    cases h
    have := aput_len m.known m.many Kd.t
    exact ⟨⟨by simp only [List.length_append, len1]; omega, by simp only [List.length_append, len1]; omega, by simp only [List.length_cons]; omega, wn, w8, cn, cw⟩, by simp only [List.length_append, len1]; omega, by simp [Rw.need, Rw.puts]⟩
  | name x =>
    simp only [Mk.row] at h
    split at h
    · cases h
      exact ⟨⟨rl, kl, by simp only [List.length_cons]; omega, wn, w8, cn, cw⟩, by simp only; omega, by simp [Rw.need, Rw.puts]⟩
    · cases h
      refine ⟨⟨by simp only [List.length_append, len1]; omega, by simp only [List.length_append, len1]; omega, by simp only [List.length_cons]; omega, aput_nodup wn, fun y hy => ?_, cn, fun y hy => ?_⟩, by simp only [List.length_append, len1]; omega, by simp [Rw.need, Rw.puts]⟩
      · rcases (aput_mem_keys _ _ _ _).mp hy with rfl | hy
        · exact hv
        · exact w8 y hy
      · exact (aput_mem_keys _ _ _ _).mpr (.inr (cw y hy))
  | set x =>
    simp only [Mk.row] at h
    split at h
    · next s hs e =>
      cases h
      rw [e] at hh
      simp only [List.length_cons] at hh
      refine ⟨⟨rl, kl, by simp only; omega, aput_nodup wn, fun y hy => ?_, aput_nodup cn, fun y hy => ?_⟩, by simp only; omega, by rw [e]; simp [Rw.need, Rw.puts]⟩
      · rcases (aput_mem_keys _ _ _ _).mp hy with rfl | hy
        · exact hv
        · exact w8 y hy
      · rcases (aput_mem_keys _ _ _ _).mp hy with rfl | hy
        · exact (aput_mem_keys _ _ _ _).mpr (.inl rfl)
        · exact (aput_mem_keys _ _ _ _).mpr (.inr (cw y hy))
    · cases h
  | say =>
    simp only [Mk.row] at h
    split at h
    · next s hs e =>
      cases h
      rw [e] at hh
      simp only [List.length_cons] at hh
      exact ⟨⟨by simp only [List.length_append, len1]; omega, by simp only [List.length_append, len1]; omega, by simp only; omega, wn, w8, cn, cw⟩, by simp only [List.length_append, len1]; omega, by rw [e]; simp [Rw.need, Rw.puts]⟩
    · cases h
  | op g =>
    simp only [Mk.row] at h
    split at h
    · next b a r e =>
      have psh : ∀ (m1 : Mk) (k : Option Kd), m1.Ok → m1.rows.length ≤ m.rows.length + 2 → (m1.push g k a b r).Ok ∧ (m1.push g k a b r).rows.length ≤ m.rows.length + 3 ∧ (m1.push g k a b r).hf.length + 2 = m.hf.length + 1 := by
        intro m1 k o1 h1
        have := aput_len m1.known m1.many (madeK g k)
        have := o1.kl
        rw [e] at hh ⊢
        simp only [List.length_cons] at hh
        unfold Mk.push
        exact ⟨⟨by simp only [List.length_append, len1]; omega, by simp only [List.length_append, len1]; omega, by simp only [List.length_cons]; omega, o1.wn, o1.w8, o1.cn, o1.cw⟩, by simp only [List.length_append, len1]; omega, by simp only [List.length_cons]⟩
      have ok : m.Ok := ⟨rl, kl, hll, wn, w8, cn, cw⟩
      split at h
      · cases h
        exact psh m none ok (by omega)
      · split at h
        · next k _ =>
          cases h
          obtain ⟨o1, _, r1, _⟩ := guard_ok (a := a) (k := k) (p := p) ok (by omega)
          obtain ⟨o2, _, r2, _⟩ := guard_ok (a := b) (k := k) (p := p) o1 (by omega)
          exact psh _ (some k) o2 (by omega)
        · cases h
    · cases h
  | «unless» q => simp only [Mk.row] at h; cases h
  | go z => simp only [Mk.row] at h; cases h
  | top => simp only [Mk.row] at h; cases h
  | fin => simp only [Mk.row] at h; cases h
/-- what the making keeps -/
structure FolOk (code : List Rw) (hts : List Nat) (most : Nat) (m : Mk) (p : Nat) : Prop where
  ok : m.Ok
  ht : hts[p]? = some m.hf.length
  rl : m.rows.length ≤ most + 3
theorem fol_ok {code : List Rw} {hts : List Nat} {gk : Nat → Option (Kd × Kd)} {gw : Nat → Option Bool} {most : Nat} {m m' : Mk} {p p' : Nat} (T : Ty code hts) (hm : most ≤ 40000) (o : FolOk code hts most m p) (h : fol code gk gw most m p = some (m', p')) :
    FolOk code hts most m' p' ∧ isTop code p = false ∧ (p < p' ∨ isTop code p' = true) := by
  have hp : p < code.length := by rw [← T.len]; exact (List.getElem?_eq_some_iff.mp o.ht).1
  obtain ⟨r, k, h1, h2, h3, h4, h5⟩ := T.rows p hp
  have e := o.ht
  rw [h2] at e
  cases e
  unfold fol at h
  rw [h1] at h
  simp only at h
  split at h
  · cases h
  · next hn =>
    have hn1 : m.rows.length < most := by omega
    have hn2 : endsIt r = false := by
      cases he : endsIt r with
      | false => rfl
      | true => exact absurd (Or.inr he) hn
    have nt : isTop code p = false := by
      cases e : isTop code p with
      | false => rfl
      | true => rw [isTop_iff, h1] at e; cases e; cases hn2
    have rl := o.rl
    have pl : ∀ m1, m.row (gk p) p r = some m1 → (r.need = 0 ∧ r.puts = 1 ∧ hts[p + 1]? = some (m.hf.length + 1)) ∨ (r.puts + 1 = r.need ∧ hts[p + 1]? = some (m.hf.length - 1)) → FolOk code hts most m1 (p + 1) := by
      intro m1 hr hc
      obtain ⟨o1, r1, q1⟩ := row_ok hr o.ok h4 (by omega) (by omega)
      refine ⟨o1, ?_, by omega⟩
      rcases hc with ⟨c1, c2, c3⟩ | ⟨c1, c3⟩
      · rw [c3]; congr 1; omega
      · rw [c3]; congr 1; omega
    cases r with
    | go z =>
      simp only at h
      cases h
      refine ⟨⟨o.ok, h3.1, o.rl⟩, nt, ?_⟩
      rcases h3.2 with h | h
      · exact .inl h
      · exact .inr (isTop_iff.mpr h)
    | «unless» q =>
      simp only at h
      split at h
      · next w s hh e1 e2 =>
        cases h
        rw [e2] at h3 h5
        simp only [RowTy, List.length_cons, Nat.add_sub_cancel] at h3
        have ok1 : ∀ rr, ({ m with hf := hh, rows := m.rows ++ [rr] } : Mk).Ok := fun rr => ⟨by simp only [List.length_append, len1]; omega, by have := o.ok.kl; simp only [List.length_append, len1]; omega, by have := o.ok.hl; rw [e2] at this; simp only [List.length_cons] at this ⊢; omega, o.ok.wn, o.ok.w8, o.ok.cn, o.ok.cw⟩
        refine ⟨⟨ok1 _, ?_, by simp only [List.length_append, len1]; omega⟩, nt, .inl ?_⟩
        · cases w
          · exact h3.2.2.2
          · exact h3.2.1
        · have := h3.2.2.1
          cases w <;> simp <;> omega
      · cases h
    | num n =>
      simp only [Option.map_eq_some_iff] at h
      obtain ⟨m1, hm1, e⟩ := h
      cases e
      exact ⟨pl _ hm1 (.inl ⟨rfl, rfl, h3⟩), nt, .inl (Nat.lt_succ_self _)⟩
    | text n =>
      simp only [Option.map_eq_some_iff] at h
      obtain ⟨m1, hm1, e⟩ := h
      cases e
      exact ⟨pl _ hm1 (.inl ⟨rfl, rfl, h3⟩), nt, .inl (Nat.lt_succ_self _)⟩
    | name n =>
      simp only [Option.map_eq_some_iff] at h
      obtain ⟨m1, hm1, e⟩ := h
      cases e
      exact ⟨pl _ hm1 (.inl ⟨rfl, rfl, h3⟩), nt, .inl (Nat.lt_succ_self _)⟩
    | op g =>
      simp only [Option.map_eq_some_iff] at h
      obtain ⟨m1, hm1, e⟩ := h
      cases e
      exact ⟨pl _ hm1 (.inr ⟨rfl, h3.2⟩), nt, .inl (Nat.lt_succ_self _)⟩
    | say =>
      simp only [Option.map_eq_some_iff] at h
      obtain ⟨m1, hm1, e⟩ := h
      cases e
      exact ⟨pl _ hm1 (.inr ⟨rfl, h3.2⟩), nt, .inl (Nat.lt_succ_self _)⟩
    | set g =>
      simp only [Option.map_eq_some_iff] at h
      obtain ⟨m1, hm1, e⟩ := h
      cases e
      exact ⟨pl _ hm1 (.inr ⟨rfl, h3.2⟩), nt, .inl (Nat.lt_succ_self _)⟩
    | top => cases hn2
    | fin => cases hn2
/-- falls while rows are made -/
def nu (code : List Rw) (p : Nat) : Nat := if isTop code p then 0 else code.length - p + 1
theorem nu_lt {code : List Rw} {p p' : Nat} (hp : p < code.length) (h : isTop code p = false) (h' : p < p' ∨ isTop code p' = true) : nu code p' < nu code p := by
  unfold nu
  rw [h]
  simp only [Bool.false_eq_true, if_false]
  split
  · omega
  · next hn =>
    rcases h' with h' | h'
    · omega
    · exact absurd h' hn

def FolInv (c : CA) (H0 : Hp) (A : MA) (gk : Nat → Option (Kd × Kd)) (gw : Nat → Option Bool) (code : List Rw) (hts : List Nat) (top most : Nat) (k : Nat) (σ : L2.St) (H : Hp) : Prop := ∃ (A' : MA) (m : Mk) (p : Nat) (σ4 σ5 σ6 : Option V), σ = [some (.ref A.o), some (.int (top : Nat)), some (.int (most : Nat)), some (.int (p : Nat)), σ4, σ5, σ6] ∧
  MkAt c H A' m ∧ FolOk code hts most m p ∧ (∀ rows, Fol code gk gw most top m p rows → Quick code gk gw most top rows) ∧ Nxt H0 A A' ∧ Fr A.fp H0 H ∧ nu code p < k
theorem Nxt.back {H H1 : Hp} {A A' : MA} {p : Addr} {u : HO} (n : Nxt H1 A A') (a : Al H p u H1) (th : ∀ x ∈ A.fp, H x ≠ none) : Nxt H A A' := by
  obtain ⟨h', e, h⟩ := n
  exact ⟨h', e, h.imp_right fun z => a.fr (S := []) |>.free z (by simp)⟩
/-- it can't go on: the last row -/
theorem fol_leave {c : CA} {H : Hp} {Q : VK} {A : MA} {m : Mk} {p top most : Nat} {v4 v5 : V} {N : L2.St → Hp → Prop} {bk : L2.St → Hp → Prop} (M : MkAt c H A m) (ok : m.Ok) (hl : m.rows.length ≤ 60000)
    (k : ∀ H', MkAt c H' A { m with rows := m.rows ++ [.leave (m.exit p)] } → Fr A.fp H H' → Q .non H') :
    tSeq (tIfS (tNot (tB (tVar 6))) (tSeq (tDrop (tApp (xFld c.maker (tVar 0) ("rows" : Str)) (xTup (tCons (tC (.str (wd 22))) (tCons (xMeth c.maker ("leaving" : Str) (sp_Maker_leaving c) (tVar 0) (tCons (tVar 3) tNil)) tNil))))) tRetN) tNext)
      (tAsg (tVar 5) (gName 3)) { nx := N, rt := Q, bk := bk, ct := N } [some (.ref A.o), some (.int (top : Nat)), some (.int (most : Nat)), some (.int (p : Nat)), some v4, some v5, some (.bl false)] H := by
  refine st_seq ?_
  push_cast
  refine st_seq ?_
  obtain ⟨⟨dx, ho⟩, ⟨xs, hr, tr⟩, hw, hc, hh, hk, n1, n2, n3, n4⟩ := M
  push_cast [ho, mk_rows, hr, mk_leaving]
  refine ⟨A, m, p, rfl, ⟨⟨dx, ho⟩, ⟨xs, hr, tr⟩, hw, hc, hh, hk, n1, n2, n3, n4⟩, ok, fun v H1 tv f1 => ?_⟩
  have keep : ∀ a u, H a = some u → H1 a = some u := fun a u h => f1.keep a u h (by simp)
  replace ho := keep _ _ ho
  replace hr := keep _ _ hr
  replace hw := keep _ _ hw
  replace hc := keep _ _ hc
  replace hh := keep _ _ hh
  replace hk := keep _ _ hk
  replace tr := tr.tups f1.tu
  refine ⟨(by simp only [List.length_cons, List.length_nil]; decide), fun b H2 A2 => ?_⟩
  replace ho := A2.k ho; replace hr := A2.k hr; replace hw := A2.k hw; replace hc := A2.k hc; replace hh := A2.k hh; replace hk := A2.k hk
  replace tr := tr.tups A2.tu; replace tv := tv.tups A2.tu
  push_cast [hr]
  refine ⟨bigL (by rw [tr.length, List.length_map]; omega), fun H3 M3 => ?_⟩
  replace hh := M3.k hh n1.symm
  replace ho := M3.k ho (ne_of ho hr (by simp)); replace hw := M3.k hw (ne_of hw hr (by simp)); replace hc := M3.k hc (ne_of hc hr (by simp)); replace hk := M3.k hk (ne_of hk hr (by simp)); replace hr := M3.at_
  replace tr := tr.tups M3.tu; replace tv := tv.tups M3.tu
  refine k H3 ⟨⟨dx, ho⟩, ⟨_, hr, ?_⟩, hw, hc, hh, hk, n1, n2, n3, n4⟩ ((f1.sub0.al A2).mu M3 (by simp [MA.fp]))
  rw [List.map_append]
  exact TpL.append tr (.cons (.tup (M3.tu _ _ A2.at_) (.cons (.str _) (.cons tv .nil))) .nil)
theorem rd_Maker_follow {K : PySem.W.Frag} {c : CA} {vs : List V} {H : Hp} {Q : VK} {E : XK} (h : sp_Maker_follow c vs H Q E) : t_Maker_follow K c { nx := fun _ H' => Q .non H', rt := Q } (start ["_", "_", "_", "_", "_", "_", "_"] vs) H := by
  obtain ⟨A, gk, gw, code, hts, top, most, rfl, M, G, W, ng, nw, tc, T, ht, hm, k⟩ := h
  show t_Maker_follow K c _ [some (.ref A.o), some (.int (top : Nat)), some (.int (most : Nat)), none, none, none, none] H
  have M0 := M
  obtain ⟨⟨dx, ho⟩, ⟨xs, hr, tr⟩, hw, hc, hh, hk, n1, n2, n3, n4⟩ := M
  have ltop : top < code.length := (List.getElem?_eq_some_iff.mp ht).1
  obtain ⟨r0, k0, g1, g2, g3, _, _⟩ := T.rows top ltop
  rw [ht] at g1
  cases g1
  have z1 : hts[top + 1]? = some 0 := g3.2
  have z0 : hts[top]? = some 0 := by rw [g2, g3.1]
  have ho0 := ho
  unfold t_Maker_follow; refine st_seq ?_
  push_cast [ho, mk_rows, hr]
  refine ⟨(by simp only [List.length_cons, List.length_nil]; decide), fun b H1 A1 => ?_⟩
  replace ho := A1.k ho; replace hr := A1.k hr; replace hw := A1.k hw; replace hc := A1.k hc; replace hh := A1.k hh; replace hk := A1.k hk
  replace tr := tr.tups A1.tu
  push_cast [hr]
  refine ⟨bigL (by rw [tr.length]; simp), fun H2 M2 => ?_⟩
  replace hh := M2.k hh n1.symm
  replace ho := M2.k ho (ne_of ho hr (by simp)); replace hw := M2.k hw (ne_of hw hr (by simp)); replace hc := M2.k hc (ne_of hc hr (by simp)); replace hk := M2.k hk (ne_of hk hr (by simp)); replace hr := M2.at_
  replace tr := tr.tups M2.tu
  have f2 : Fr A.fp H H2 := A1.fr.mu M2 (by simp [MA.fp])
  have MM : MkAt c H2 A Mk0 := ⟨⟨dx, ho⟩, ⟨_, hr, TpL.append tr (.cons (.tup (M2.tu _ _ A1.at_) (.cons (.str _) .nil)) .nil)⟩, hw, hc, hh, hk, n1, n2, n3, n4⟩
  have ok0 : Mk0.Ok := ⟨by decide, by decide, by decide, by simp [Mk0], (fun x hx => by cases hx), by simp [Mk0], (fun x hx => by cases hx)⟩
  unfold t_Maker_follow_1; refine st_seq ?_
  push_cast
  unfold t_Maker_follow_2; refine st_seq ?_
  refine ⟨FolInv c H A gk gw code hts top most, ⟨nu code (top + 1) + 1, A, Mk0, top + 1, none, none, none, by simp only [Int.natCast_add]; rfl, MM, ⟨ok0, z1, by simp [Mk0]⟩, fun rows h => h, .refl _ _, f2, Nat.lt_succ_self _⟩, ?_⟩
  rintro kk σ H3 ⟨A', m, p, σ4, σ5, σ6, rfl, M3, fo, acc, N3, f3, mk⟩
  obtain ⟨ha', eA, _⟩ := id N3
  have oA : A'.o = A.o := by rw [eA]
  have gA : A'.gka = A.gka ∧ A'.gwa = A.gwa ∧ A'.vc = A.vc := by rw [eA]; exact ⟨rfl, rfl, rfl⟩
  have ngo : ∀ x, H x ≠ none → x ∉ A.fp → x ∉ A'.fp := fun x hx hn hz => (N3.own x hz).elim hn hx
  have G3 : KinAt H3 A'.gka gk := by rw [gA.1]; exact G.keep f3 ng
  have W3 : WayAt H3 A'.gwa gw := by rw [gA.2.1]; exact W.keep f3 nw
  have ng3 : A'.gka ∉ A'.fp := by rw [gA.1]; obtain ⟨ks, hks, _⟩ := G.dic; exact ngo _ (by rw [hks]; simp) ng
  have nw3 : A'.gwa ∉ A'.fp := by rw [gA.2.1]; obtain ⟨ks, hks, _⟩ := W.dic; exact ngo _ (by rw [hks]; simp) nw
  have tc3 : Tp H3 (rowsD code) A'.vc := by rw [gA.2.2]; exact tc.tups f3.tu
  have lp : p < code.length := by rw [← T.len]; exact (List.getElem?_eq_some_iff.mp fo.ht).1
  have rl := fo.rl
  simp only [tTest, tOp, tVar, rNe]
  refine ⟨_, rfl, _, rfl, rfl, _, rfl, ?_⟩
  by_cases hpt : p = top
  · subst hpt
    rw [decide_eq_true rfl]
    refine iteF ?_
    obtain ⟨dx3, ho3⟩ := M3.ins
    rw [oA] at ho3
    push_cast [ho3, mk_closed]
    refine ⟨A', m, by rw [oA], M3, fo.ok, fun H4 M4 f4 => ?_⟩
    refine k _ H4 A' _ (acc _ (.close m)) ?_ M4 rfl N3 (f3.own N3.own f4)
    have := puts_len m fo.ok
    simp only [List.length_append, len1, Mk.puts, List.length_map]
    omega
  · rw [decide_eq_false (by simp only [V.int.injEq]; omega)]
    refine iteT ⟨fun σ' H' => ∃ k', k' < kk ∧ FolInv c H A gk gw code hts top most k' σ' H', fun _ _ h => h, ?_⟩
    obtain ⟨r, kh, h1, h2, h3, h4, h5⟩ := T.rows p lp
    have eh := fo.ht
    rw [h2] at eh
    cases eh
    obtain ⟨ca, rows, y, ec, hca, _, hix, ty⟩ := code_at tc3 h1
    obtain ⟨dx3, ho3⟩ := M3.ins
    obtain ⟨ws, hr3, tr3⟩ := M3.rows
    rw [oA] at ho3
    have lw : ws.length = m.rows.length := by rw [tr3.length, List.length_map]
    have lv : fol code gk gw most m p = none → ∀ H4, MkAt c H4 A' m → Fr A.fp H H4 → ∀ {v4 v5 : V} {N bk : L2.St → Hp → Prop}, tSeq (tIfS (tNot (tB (tVar 6))) (tSeq (tDrop (tApp (xFld c.maker (tVar 0) ("rows" : Str)) (xTup (tCons (tC (.str (wd 22))) (tCons (xMeth c.maker ("leaving" : Str) (sp_Maker_leaving c) (tVar 0) (tCons (tVar 3) tNil)) tNil))))) tRetN) tNext)
        (tAsg (tVar 5) (gName 3)) { nx := N, rt := Q, bk := bk, ct := N } [some (.ref A.o), some (.int (top : Nat)), some (.int (most : Nat)), some (.int (p : Nat)), some v4, some v5, some (.bl false)] H4 := by
      intro hn H4 M4 f4 v4 v5 N bk
      rw [← oA]
      exact fol_leave M4 fo.ok (by omega) fun H5 M5 f5 => k _ H5 A' _ (acc _ (.leave hpt hn)) (by simp only [List.length_append, len1]; omega) M5 rfl N3 (f4.own N3.own f5)
    have nxt : ∀ (m' : Mk) (p' : Nat) (A4 : MA) (H4 : Hp) (v4 : V), fol code gk gw most m p = some (m', p') → MkAt c H4 A4 m' → Nxt H3 A' A4 → Fr A'.fp H3 H4 →
        ∃ k', k' < kk ∧ FolInv c H A gk gw code hts top most k' [some (.ref A.o), some (.int (top : Nat)), some (.int (most : Nat)), some (.int (p' : Nat)), some v4, some (.int (p' : Nat)), some (.bl true)] H4 := by
      intro m' p' A4 H4 v4 hf M4 N4 f4
      obtain ⟨o1, o2, o3⟩ := fol_ok T hm fo hf
      exact ⟨nu code p, mk, A4, m', p', _, _, _, rfl, M4, o1, fun rows h => acc rows (.next hpt hf h), N3.trans f3 M3.there N4, f3.own N3.own f4, nu_lt lp o2 o3⟩
    refine st_seq ?_
    push_cast [ho3, mk_code, ec, hca, hix]
    refine st_seq ?_
    push_cast
    refine st_seq ?_
    push_cast [ho3, mk_rows, hr3]
    refine i2 (fun hlt => ?_) fun hlt => ?_
    · have hlt' : m.rows.length < most := by omega
      cases r with
      | top =>
        obtain ⟨ra, rfl, hra⟩ := tp1 ty
        push_cast [hra]
        refine ⟨(by simp only [List.length_cons, List.length_nil]; decide), fun q4 H4 A4 => ?_⟩
        push_cast [A4.at_]
        refine st_seq ?_
        push_cast
        exact lv (by unfold fol; rw [h1]; simp [endsIt]) H4 (M3.keep0 A4.fr) (f3.al A4)
      | fin =>
        obtain ⟨ra, rfl, hra⟩ := tp1 ty
        push_cast [hra]
        refine ⟨(by simp only [List.length_cons, List.length_nil]; decide), fun q4 H4 A4 => ?_⟩
        push_cast [A4.at_]
        refine st_seq ?_
        push_cast
        exact lv (by unfold fol; rw [h1]; simp [endsIt]) H4 (M3.keep0 A4.fr) (f3.al A4)
      | go z =>
        obtain ⟨ra, rfl, hra⟩ := tp2i ty
        push_cast [hra]
        refine ⟨(by simp only [List.length_cons, List.length_nil]; decide), fun q4 H4 A4 => ?_⟩
        push_cast [A4.at_]
        refine st_seq ?_
        push_cast [A4.k hra]
        refine st_seq ?_
        push_cast
        exact nxt m z A' H4 _ (by unfold fol; rw [h1]; simp only [endsIt, Bool.false_eq_true, or_false]; rw [if_neg (by omega)]) (M3.keep0 A4.fr) (.refl _ _) A4.fr
      | «unless» q =>
        obtain ⟨ra, rfl, hra⟩ := tp2i ty
        push_cast [hra]
        refine ⟨(by simp only [List.length_cons, List.length_nil]; decide), fun q4 H4 A4 => ?_⟩
        have M4 := M3.keep0 A4.fr
        push_cast [A4.at_]
        refine st_seq ?_
        push_cast [A4.k hra]
        obtain ⟨dx4, ho4⟩ := M4.ins
        rw [oA] at ho4
        refine st_seq ?_
        push_cast [ho4, mk_way]
        have hn1 : 1 ≤ m.hf.length := h3.1
        match hf : m.hf, hn1 with
        | s :: h', _ =>
          have fe : fol code gk gw most m p = (match gw p with
              | some w => some ({ m with hf := h', rows := m.rows ++ [.so s w ({ m with hf := h' }.exit (if w then q else p + 1))] }, if w then p + 1 else q)
              | none => none) := by
            unfold fol
            rw [h1]
            simp only [endsIt, Bool.false_eq_true, or_false]
            rw [if_neg (by omega), hf]
            cases gw p <;> rfl
          refine ⟨A', m, gw, p, q, s, h', code, by rw [oA], M4, fo.ok, W3.keep (A4.fr (S := [])) (by simp), nw3, tc3.tups A4.tu, h1, hf, by omega, fun hg H5 M5 f5 => ?_, fun w hg H5 M5 f5 => ?_⟩
          · push_cast
            rw [show decide ((0 : Int) ≤ -1) = false from rfl]
            exact lv (by rw [fe, hg]) H5 M5 ((f3.al A4).own N3.own f5)
          · push_cast
            rw [decide_eq_true (Int.natCast_nonneg _)]
            refine st_seq ?_
            push_cast
            exact nxt _ _ A' H5 _ (by rw [fe, hg]) M5 (.refl _ _) (A4.fr.trans f5)
      | op g =>
        have ty0 := ty
        obtain ⟨ra, rfl, hra⟩ := tp1 ty
        have fe : fol code gk gw most m p = (m.row (gk p) p (.op g)).map fun m' => (m', p + 1) := by unfold fol; rw [h1]; simp only [endsIt, Bool.false_eq_true, or_false]; rw [if_neg (by omega)]
        push_cast [hra]
        refine ⟨(by simp only [List.length_cons, List.length_nil]; decide), fun q4 H4 A4 => ?_⟩
        have M4 := M3.keep0 A4.fr
        have z9 : (g.s = wd 9) = False ∧ (g.s = wd 10) = False := by
          have hg : 3 ≤ g.ix ∧ g.ix ≤ 6 := by cases g <;> decide
          simp only [sg_eq g _ (show 9 < 42 by decide), sg_eq g _ (show 10 < 42 by decide)]
          refine ⟨?_, ?_⟩ <;> simp only [eq_iff_iff, iff_false] <;> omega
        push_cast [A4.at_, sg_ne g (i := 11) (by decide), sg_ne g (i := 12) (by decide)]
        refine st_seq ?_
        push_cast [A4.k hra, z9.1, z9.2]
        obtain ⟨dx4, ho4⟩ := M4.ins
        rw [oA] at ho4
        push_cast [ho4, mk_plain]
        refine ⟨A', m, gk, p, .op g, _, by rw [oA], ty0.tups A4.tu, trivial, M4, fo.ok, G3.keep (A4.fr (S := [])) (by simp), ng3, by have := h3.need; exact this, h4, by omega, fun H5 A5 m' hm' M5 N5 f5 => ?_, fun H5 hm' M5 f5 => ?_⟩
        · push_cast
          refine st_seq ?_
          push_cast
          exact nxt m' (p + 1) A5 H5 _ (by rw [fe, hm']; rfl) M5 (N5.back A4 M3.there) (A4.fr.trans f5)
        · exact lv (by rw [fe, hm']; rfl) H5 M5 ((f3.al A4).own N3.own f5)
      | num n =>
        have ty0 := ty
        obtain ⟨ra, rfl, hra⟩ := tp2i ty
        have fe : fol code gk gw most m p = (m.row (gk p) p (.num n)).map fun m' => (m', p + 1) := by unfold fol; rw [h1]; simp only [endsIt, Bool.false_eq_true, or_false]; rw [if_neg (by omega)]
        push_cast [hra]
        refine ⟨(by simp only [List.length_cons, List.length_nil]; decide), fun q4 H4 A4 => ?_⟩
        have M4 := M3.keep0 A4.fr
        push_cast [A4.at_]
        refine st_seq ?_
        push_cast [A4.k hra]
        obtain ⟨dx4, ho4⟩ := M4.ins
        rw [oA] at ho4
        push_cast [ho4, mk_plain]
        refine ⟨A', m, gk, p, .num n, _, by rw [oA], ty0.tups A4.tu, trivial, M4, fo.ok, G3.keep (A4.fr (S := [])) (by simp), ng3, by have := h3.need; exact this, h4, by omega, fun H5 A5 m' hm' M5 N5 f5 => ?_, fun H5 hm' M5 f5 => ?_⟩
        · push_cast
          refine st_seq ?_
          push_cast
          exact nxt m' (p + 1) A5 H5 _ (by rw [fe, hm']; rfl) M5 (N5.back A4 M3.there) (A4.fr.trans f5)
        · exact lv (by rw [fe, hm']; rfl) H5 M5 ((f3.al A4).own N3.own f5)
      | text n =>
        have ty0 := ty
        obtain ⟨ra, rfl, hra⟩ := tp2s ty
        have fe : fol code gk gw most m p = (m.row (gk p) p (.text n)).map fun m' => (m', p + 1) := by unfold fol; rw [h1]; simp only [endsIt, Bool.false_eq_true, or_false]; rw [if_neg (by omega)]
        push_cast [hra]
        refine ⟨(by simp only [List.length_cons, List.length_nil]; decide), fun q4 H4 A4 => ?_⟩
        have M4 := M3.keep0 A4.fr
        push_cast [A4.at_]
        refine st_seq ?_
        push_cast [A4.k hra]
        obtain ⟨dx4, ho4⟩ := M4.ins
        rw [oA] at ho4
        push_cast [ho4, mk_plain]
        refine ⟨A', m, gk, p, .text n, _, by rw [oA], ty0.tups A4.tu, trivial, M4, fo.ok, G3.keep (A4.fr (S := [])) (by simp), ng3, by have := h3.need; exact this, h4, by omega, fun H5 A5 m' hm' M5 N5 f5 => ?_, fun H5 hm' M5 f5 => ?_⟩
        · push_cast
          refine st_seq ?_
          push_cast
          exact nxt m' (p + 1) A5 H5 _ (by rw [fe, hm']; rfl) M5 (N5.back A4 M3.there) (A4.fr.trans f5)
        · exact lv (by rw [fe, hm']; rfl) H5 M5 ((f3.al A4).own N3.own f5)
      | name n =>
        have ty0 := ty
        obtain ⟨ra, rfl, hra⟩ := tp2s ty
        have fe : fol code gk gw most m p = (m.row (gk p) p (.name n)).map fun m' => (m', p + 1) := by unfold fol; rw [h1]; simp only [endsIt, Bool.false_eq_true, or_false]; rw [if_neg (by omega)]
        push_cast [hra]
        refine ⟨(by simp only [List.length_cons, List.length_nil]; decide), fun q4 H4 A4 => ?_⟩
        have M4 := M3.keep0 A4.fr
        push_cast [A4.at_]
        refine st_seq ?_
        push_cast [A4.k hra]
        obtain ⟨dx4, ho4⟩ := M4.ins
        rw [oA] at ho4
        push_cast [ho4, mk_plain]
        refine ⟨A', m, gk, p, .name n, _, by rw [oA], ty0.tups A4.tu, trivial, M4, fo.ok, G3.keep (A4.fr (S := [])) (by simp), ng3, by have := h3.need; exact this, h4, by omega, fun H5 A5 m' hm' M5 N5 f5 => ?_, fun H5 hm' M5 f5 => ?_⟩
        · push_cast
          refine st_seq ?_
          push_cast
          exact nxt m' (p + 1) A5 H5 _ (by rw [fe, hm']; rfl) M5 (N5.back A4 M3.there) (A4.fr.trans f5)
        · exact lv (by rw [fe, hm']; rfl) H5 M5 ((f3.al A4).own N3.own f5)
      | say =>
        have ty0 := ty
        obtain ⟨ra, rfl, hra⟩ := tp1 ty
        have fe : fol code gk gw most m p = (m.row (gk p) p (.say)).map fun m' => (m', p + 1) := by unfold fol; rw [h1]; simp only [endsIt, Bool.false_eq_true, or_false]; rw [if_neg (by omega)]
        push_cast [hra]
        refine ⟨(by simp only [List.length_cons, List.length_nil]; decide), fun q4 H4 A4 => ?_⟩
        have M4 := M3.keep0 A4.fr
        push_cast [A4.at_]
        refine st_seq ?_
        push_cast [A4.k hra]
        obtain ⟨dx4, ho4⟩ := M4.ins
        rw [oA] at ho4
        push_cast [ho4, mk_plain]
        refine ⟨A', m, gk, p, .say, _, by rw [oA], ty0.tups A4.tu, trivial, M4, fo.ok, G3.keep (A4.fr (S := [])) (by simp), ng3, by have := h3.need; exact this, h4, by omega, fun H5 A5 m' hm' M5 N5 f5 => ?_, fun H5 hm' M5 f5 => ?_⟩
        · push_cast
          refine st_seq ?_
          push_cast
          exact nxt m' (p + 1) A5 H5 _ (by rw [fe, hm']; rfl) M5 (N5.back A4 M3.there) (A4.fr.trans f5)
        · exact lv (by rw [fe, hm']; rfl) H5 M5 ((f3.al A4).own N3.own f5)
      | set n =>
        have ty0 := ty
        obtain ⟨ra, rfl, hra⟩ := tp2s ty
        have fe : fol code gk gw most m p = (m.row (gk p) p (.set n)).map fun m' => (m', p + 1) := by unfold fol; rw [h1]; simp only [endsIt, Bool.false_eq_true, or_false]; rw [if_neg (by omega)]
        push_cast [hra]
        refine ⟨(by simp only [List.length_cons, List.length_nil]; decide), fun q4 H4 A4 => ?_⟩
        have M4 := M3.keep0 A4.fr
        push_cast [A4.at_]
        refine st_seq ?_
        push_cast [A4.k hra]
        obtain ⟨dx4, ho4⟩ := M4.ins
        rw [oA] at ho4
        push_cast [ho4, mk_plain]
        refine ⟨A', m, gk, p, .set n, _, by rw [oA], ty0.tups A4.tu, trivial, M4, fo.ok, G3.keep (A4.fr (S := [])) (by simp), ng3, by have := h3.need; exact this, h4, by omega, fun H5 A5 m' hm' M5 N5 f5 => ?_, fun H5 hm' M5 f5 => ?_⟩
        · push_cast
          refine st_seq ?_
          push_cast
          exact nxt m' (p + 1) A5 H5 _ (by rw [fe, hm']; rfl) M5 (N5.back A4 M3.there) (A4.fr.trans f5)
        · exact lv (by rw [fe, hm']; rfl) H5 M5 ((f3.al A4).own N3.own f5)
    · refine st_seq ?_
      push_cast
      exact lv (by unfold fol; rw [h1]; simp only; rw [if_pos (.inl (by omega))]) H3 M3 f3

theorem rd_quick_rows {K : PySem.W.Frag} {c : CA} {vs : List V} {H : Hp} {Q : VK} {E : XK} (h : sp_quick_rows c vs H Q E) : t_quick_rows K c { nx := fun _ H' => Q .non H', rt := Q } (start ["_", "_", "_", "_", "_"] vs) H := by
  obtain ⟨vc, code, hts, top, most, no, ka, wa, ta, gk, gw, rfl, tc, T, ht, hm, ⟨dn, hn⟩, G, W, k⟩ := h
  show t_quick_rows K c _ [some vc, some (.int (top : Nat)), some (.ref no), some (.int (most : Nat)), none] H
  have ltop : top < code.length := (List.getElem?_eq_some_iff.mp ht).1
  obtain ⟨ca, rows, y, rfl, hca, hlen, hix, ty⟩ := code_at tc ht
  obtain ⟨ra, rfl, hra⟩ := tp1 ty
  unfold t_quick_rows; refine st_seq ?_
  push_cast [hca, hix, hra]
  refine iteT' (Int.natCast_nonneg _) (iteF' (fun z => z (show ((top : Nat) : Int) < (rows.length : Nat) by omega)) ?_)
  unfold t_quick_rows_1; refine st_seq ?_
  push_cast
  intro o dx H1 A1
  have non : o ≠ no := fun e => ne_of_none hn A1.new e.symm
  have hn1 := A1.k hn
  refine ⟨o, dx, no, dn, ka, wa, ta, _, rfl, A1.at_, hn1, non, fun A H2 e1 e2 e3 e4 nw M2 f2 => ⟨rfl, ?_⟩⟩
  have fr1 : ∀ x ∈ [A.ra, A.wa, A.ca, A.ha, A.na], H x = none := fun x hx => A1.fr (S := []) |>.free (nw x hx) (by simp)
  have fp : ∀ x ∈ A.fp, H x = none := by
    intro x hx
    simp only [MA.fp] at hx
    rcases List.mem_cons.mp hx with rfl | hx
    · rw [e1]; exact A1.new
    · exact fr1 x hx
  obtain ⟨kk, hkk, _⟩ := G.dic
  obtain ⟨ww, hww, _⟩ := W.dic
  have n1 : A.gka ∉ A.fp := fun hz => by have := fp _ hz; rw [e2, hkk] at this; cases this
  have n2 : A.gwa ∉ A.fp := fun hz => by have := fp _ hz; rw [e3, hww] at this; cases this
  have F2 : Fr [o] H H2 := A1.fr.trans f2
  have no1 : ∀ x, H x ≠ none → x ∉ [o] := fun x hx hz => hx (by rw [List.mem_singleton.mp hz]; exact A1.new)
  unfold t_quick_rows_2; refine st_seq ?_
  obtain ⟨dx2, ho2⟩ := M2.ins
  rw [e1] at ho2
  push_cast [ho2, mk_follow]
  refine ⟨A, gk, gw, code, hts, top, most, by rw [e1], M2, by rw [e2]; exact G.keep F2 (no1 _ (by rw [hkk]; simp)), by rw [e3]; exact W.keep F2 (no1 _ (by rw [hww]; simp)), n1, n2, by rw [e4]; exact tc.tups F2.tu, T, ht, hm, fun rws H3 A' m' hq hl M3 em N3 f3 => ?_⟩
  obtain ⟨ha', eA, _⟩ := id N3
  obtain ⟨dx3, ho3⟩ := M3.ins
  obtain ⟨zs, hz, tz⟩ := M3.rows
  have oA : A'.o = o := by rw [eA]; exact e1
  rw [oA] at ho3
  push_cast [ho3, mk_rows, hz]
  intro q H4 A4
  have F3 : Fr (o :: A.fp) H H3 := (F2.mono (by simp)).trans (f3.mono (by simp +contextual))
  have F4 : Fr [] H H4 := by
    refine ⟨fun b u h _ => A4.k (F3.keep b u h ?_), fun b ys h => A4.k (F3.tups b ys h)⟩
    intro hz
    rcases List.mem_cons.mp hz with rfl | hz
    · rw [A1.new] at h; cases h
    · rw [fp b hz] at h; cases h
  refine k _ rws H4 hq hl (.tup A4.at_ ?_) F4
  rw [← em]
  exact tz.tups A4.tu

/-! quick rows, run: a mirror -/
abbrev Held := List (Nat × Vl)
def hget (h : Held) (s : Nat) : Vl := (aget h s).getD (.n 0)
structure QC where
  s : MS
  held : Held
  at_ : Nat
inductive QOut where
  | on (c : QC) | fall (at_ : Nat) (s : MS) | over (s : MS)
/-- back to plain rows by an exit -/
def qleave (o : Qx) (s : MS) (h : Held) : MS := { s with place := o.place, names := o.names.foldl (fun n p => nput n p.1 (hget h p.2)) s.names, st := (o.half.map (hget h)).reverse }
def qrow (r : Qr) (c : QC) : QOut :=
  match r with
  | .turn => if c.s.left - 1 < 0 then .over { c.s with left := c.s.left - 1, last := some .dry } else .on ⟨{ c.s with left := c.s.left - 1 }, c.held, c.at_ + 1⟩
  | .num s n => .on ⟨c.s, aput c.held s (.n n), c.at_ + 1⟩
  | .text s z => .on ⟨c.s, aput c.held s (.t z), c.at_ + 1⟩
  | .get s x => .on ⟨c.s, aput c.held s (ngetD c.s.names x), c.at_ + 1⟩
  | .is s k o => if (hget c.held s).kind = k then .on ⟨c.s, c.held, c.at_ + 1⟩ else .fall c.at_ (qleave o c.s c.held)
  | .so s y o => if (hget c.held s).so = y then .on ⟨c.s, c.held, c.at_ + 1⟩ else .fall c.at_ (qleave o c.s c.held)
  | .op g _ s a b => (match wk g (hget c.held a) (hget c.held b) with
    | some z => .on ⟨c.s, aput c.held s z, c.at_ + 1⟩
    | none => .over c.s)
  | .say s => .on ⟨{ c.s with said := c.s.said ++ [hget c.held s] }, c.held, c.at_ + 1⟩
  | .put x s => .on ⟨{ c.s with names := nput c.s.names x (hget c.held s) }, c.held, c.at_ + 1⟩
  | .again => .on ⟨c.s, c.held, 0⟩
  | .leave o => .fall c.at_ (qleave o c.s c.held)
def qstep (rows : List Qr) (c : QC) : QOut := match rows[c.at_]? with
  | some r => qrow r c
  | none => .over c.s
inductive QReach (rows : List Qr) : QC → QC → Prop
  | refl (c : QC) : QReach rows c c
  | step {c d e : QC} : qstep rows c = .on d → QReach rows d e → QReach rows c e
theorem QReach.trans {rows : List Qr} {a b c : QC} (x : QReach rows a b) (y : QReach rows b c) : QReach rows a c := by
  induction x with
  | refl => exact y
  | step h _ ih => exact .step h (ih y)
theorem QReach.snoc {rows : List Qr} {a b c : QC} (x : QReach rows a b) (h : qstep rows b = .on c) : QReach rows a c := x.trans (.step h (.refl _))
def isOn : QOut → Bool
  | .on _ => true
  | _ => false
/-- where it ends is told -/
theorem QReach.det {rows : List Qr} {a b c : QC} (x : QReach rows a b) (hb : isOn (qstep rows b) = false) (y : QReach rows a c) (hc : isOn (qstep rows c) = false) : b = c := by
  induction x with
  | refl a =>
    cases y with
    | refl => rfl
    | step h _ => rw [h] at hb; cases hb
  | step h _ ih =>
    cases y with
    | refl => rw [h] at hc; cases hc
    | step h' y => rw [h] at h'; cases h'; exact ih hb y
def heldOk (h : Held) (s : Nat) : Prop := (aget h s).isSome = true
def Qx.fit (o : Qx) (h : Held) : Prop := (∀ p ∈ o.names, Nm8 p.1 ∧ heldOk h p.2) ∧ (∀ s ∈ o.half, heldOk h s) ∧ o.names.length ≤ 1000 ∧ o.half.length ≤ 1000
def Qr.fit (c : QC) : Qr → Prop
  | .num _ n => 0 ≤ n ∧ n < 10000
  | .text _ z => Txt12 z
  | .get _ x => Nm8 x
  | .is s _ o => heldOk c.held s ∧ o.fit c.held
  | .so s _ o => heldOk c.held s ∧ o.fit c.held
  | .op g _ _ a b => heldOk c.held a ∧ heldOk c.held b ∧ (wk g (hget c.held a) (hget c.held b)).isSome = true
  | .say s => heldOk c.held s
  | .put x s => Nm8 x ∧ heldOk c.held s
  | .leave o => o.fit c.held
  | _ => True
/-- a quick row can be done -/
structure QFit (rows : List Qr) (c : QC) : Prop where
  row : ∃ r, rows[c.at_]? = some r ∧ r.fit c
  ok : c.s.ok
  held : ∀ p ∈ c.held, p.2.ok
  hl : c.held.length ≤ 1000000
  sl : c.s.said.length < 8000000
def Safe (rows : List Qr) (c : QC) : Prop := ∀ d, QReach rows c d → QFit rows d
theorem Safe.reach {rows : List Qr} {c d : QC} (s : Safe rows c) (r : QReach rows c d) : Safe rows d := fun e h => s e (r.trans h)
/-- falls with each quick row -/
def qmu (rows : List Qr) (c : QC) : Nat := if c.at_ = 0 then c.s.left.toNat * (rows.length + 2) + (rows.length + 1) else (c.s.left.toNat + 1) * (rows.length + 2) + (rows.length - c.at_)

/-! the tree gone through: promises -/
structure RunAt (H : Hp) (r na sd : Addr) (s : MS) : Prop where
  run : ∃ la, H r = some (.lst [.ref na, .int s.left, .ref sd, la]) ∧ Tp H (lastD s.last) la
  nm : H na = some (.dK (kvs s.names))
  said : H sd = some (.lst (vls s.said))
  ne : r ≠ sd
theorem RunAt.go {H : Hp} {r na sd : Addr} {s : MS} (h : RunAt H r na sd s) (hl : s.last = none) : H r = some (.lst [.ref na, .int s.left, .ref sd, .non]) := by
  obtain ⟨la, h1, h2⟩ := h.run
  rw [hl] at h2
  simp only [lastD, tp_non] at h2
  subst h2
  exact h1
theorem RunAt.keep {H H' : Hp} {r na sd : Addr} {s : MS} (h : RunAt H r na sd s) (f : Fr [] H H') : RunAt H' r na sd s := by
  obtain ⟨la, h1, h2⟩ := h.run
  exact ⟨⟨la, f.keep _ _ h1 (by simp), h2.tups f.tu⟩, f.keep _ _ h.nm (by simp), f.keep _ _ h.said (by simp), h.ne⟩
theorem RunAt.like {H : Hp} {r na sd : Addr} {s t : MS} (h : RunAt H r na sd s) (h1 : t.names = s.names) (h2 : t.left = s.left) (h3 : t.said = s.said) (h4 : t.last = s.last) : RunAt H r na sd t := by
  obtain ⟨x, y, z, ne⟩ := h
  exact ⟨by rw [h2, h4]; exact x, by rw [h1]; exact y, by rw [h3]; exact z, ne⟩
def sp_L_size (n : Nat) : Sp := fun vs H Q _ => ∃ (v : V) (e : Ex), vs = [v] ∧ Tp H e.d v ∧ e.dep ≤ n ∧ ∀ H', Fr [] H H' → Q (.int e.code.length) H'
theorem len_L_size {n : Nat} (vs : List V) (H : Hp) (Q : VK) (E : XK) (h : sp_L_size n vs H Q E) : vs.length = 1 := by
  obtain ⟨_, _, rfl, _⟩ := h
  rfl
theorem no_L_size (vs : List V) (H : Hp) (Q : VK) (E : XK) : ¬ sp_L_size 0 vs H Q E := fun ⟨_, e, _, _, h, _⟩ => absurd e.dep_pos (by omega)
def Un.len : Un → Nat
  | .row l => (hsL l).length
  | .st s => s.hs.length
theorem Un.len_code (o : Un) (b : Nat) : (o.code b).length = o.len := by
  cases o with
  | row l => exact (hsL_len l b).symm
  | st s => exact (s.hs_len b).symm
def sp_L_long (n : Nat) : Sp := fun vs H Q _ => ∃ (v : V) (o : Un), vs = [v] ∧ Tp H o.d v ∧ o.dp ≤ n ∧ o.ok 5 ∧ ∀ H', Fr [] H H' → Q (.int o.len) H'
theorem len_L_long {n : Nat} (vs : List V) (H : Hp) (Q : VK) (E : XK) (h : sp_L_long n vs H Q E) : vs.length = 1 := by
  obtain ⟨_, _, rfl, _⟩ := h
  rfl
theorem no_L_long (vs : List V) (H : Hp) (Q : VK) (E : XK) : ¬ sp_L_long 0 vs H Q E := fun ⟨_, o, _, _, h, _⟩ => absurd o.dp_pos (by omega)
def sp_L_valued (n : Nat) : Sp := fun vs H Q _ => ∃ (r na sd : Addr) (s : MS) (v : V) (e : Ex) (p : Nat), vs = [.ref r, v, .int (p : Nat)] ∧ Tp H e.d v ∧ RunAt H r na sd s ∧ s.last = none ∧ e.dep ≤ n ∧ e.dep ≤ 8 ∧ e.ok ∧ NmOk s.names ∧
  (∀ x H', e.val s.names p = .inr x → RunAt H' r na sd s → Fr [] H H' → Q x.v H') ∧ (∀ q H', e.val s.names p = .inl q → RunAt H' r na sd { s with last := some (.mixed q) } → Fr [r] H H' → Q .non H')
theorem len_L_valued {n : Nat} (vs : List V) (H : Hp) (Q : VK) (E : XK) (h : sp_L_valued n vs H Q E) : vs.length = 3 := by
  obtain ⟨_, _, _, _, _, _, _, rfl, _⟩ := h
  rfl
theorem no_L_valued (vs : List V) (H : Hp) (Q : VK) (E : XK) : ¬ sp_L_valued 0 vs H Q E := fun ⟨_, _, _, _, _, e, _, _, _, _, _, h, _⟩ => absurd e.dep_pos (by omega)
/-- a state at which a row or a statement begins -/
structure Beg (code : List Rw) (hts : List Nat) (s : MS) (o : Un) : Prop where
  ty : Ty code hts
  inn : In code hts 0 s
  last : s.last = none
  st : s.st = []
  at_ : At code s.place (o.code s.place)
  bd : Bd code s
def spDoes (n j : Nat) (good : Un → Prop) : Sp := fun vs H Q _ => ∃ (r na sd : Addr) (v : V) (o : Un) (code : List Rw) (hts : List Nat) (s : MS), vs = [.ref r, v, .int (s.place : Nat)] ∧ Tp H o.d v ∧ RunAt H r na sd s ∧ Beg code hts s o ∧ good o ∧ 2 * o.dp ≤ n + j ∧ o.dp ≤ 20 ∧ o.ok 5 ∧
  ∀ H' s', Reach code s s' → (s'.last = none → s'.place = s.place + o.len ∧ s'.st = []) → RunAt H' r na sd s' → Fr [r, na, sd] H H' → Q .non H'
theorem len_spDoes {n j : Nat} {g : Un → Prop} (vs : List V) (H : Hp) (Q : VK) (E : XK) (h : spDoes n j g vs H Q E) : vs.length = 3 := by
  obtain ⟨_, _, _, _, _, _, _, _, rfl, _⟩ := h
  rfl
theorem no_spDoes {j : Nat} {g : Un → Prop} (hj : j ≤ 1) (vs : List V) (H : Hp) (Q : VK) (E : XK) : ¬ spDoes 0 j g vs H Q E := fun ⟨_, _, _, _, o, _, _, _, _, _, _, _, _, h, _⟩ => absurd o.dp_pos (by omega)
def sp_L_does (n : Nat) : Sp := spDoes n 0 fun _ => True
def sp_L_turns (n : Nat) : Sp := spDoes n 1 isWhl
theorem len_L_does {n : Nat} (vs : List V) (H : Hp) (Q : VK) (E : XK) (h : sp_L_does n vs H Q E) : vs.length = 3 := len_spDoes vs H Q E h
theorem len_L_turns {n : Nat} (vs : List V) (H : Hp) (Q : VK) (E : XK) (h : sp_L_turns n vs H Q E) : vs.length = 3 := len_spDoes vs H Q E h
theorem no_L_does (vs : List V) (H : Hp) (Q : VK) (E : XK) : ¬ sp_L_does 0 vs H Q E := no_spDoes (by decide) vs H Q E
theorem no_L_turns (vs : List V) (H : Hp) (Q : VK) (E : XK) : ¬ sp_L_turns 0 vs H Q E := no_spDoes (by decide) vs H Q E
def begS (m : Nms) (most : Int) : MS := ⟨m, [], 0, most, [], none⟩
def sp_L_walked : Sp := fun vs H Q _ => ∃ (v : V) (p : List Sm) (a : Addr) (m : Nms) (most : Int), vs = [v, .ref a, .int most] ∧ Tp H (rowD p) v ∧ PrOk p ∧ H a = some (.dK (kvs m)) ∧ NmOk m ∧ Bd (progC p) (begS m most) ∧
  ∀ t na sd la s' H', Reach (progC p) (begS m most) s' → s'.last ≠ none → H' t = some (.tup [.ref sd, la, .ref na]) → H' na = some (.dK (kvs s'.names)) → H' sd = some (.lst (vls s'.said)) → Tp H' (lastD s'.last) la → Fr [] H H' → H na = none → H sd = none → Q (.ref t) H'
theorem len_L_walked (vs : List V) (H : Hp) (Q : VK) (E : XK) (h : sp_L_walked vs H Q E) : vs.length = 3 := by
  obtain ⟨_, _, _, _, _, rfl, _⟩ := h
  rfl
def sp_walked (_c : CA) : Sp := fun vs H Q _ => ∃ (v : V) (code : List Rw) (hts : List Nat) (a : Addr) (m : Nms) (most : Int), vs = [v, .ref a, .int most] ∧ Tp H (rowsD code) v ∧ Ty code hts ∧ H a = some (.dK (kvs m)) ∧ NmOk m ∧ 0 ≤ most ∧ Bd code (begS m most) ∧
  ∀ t na sd la s' H', Reach code (begS m most) s' → s'.last ≠ none → H' t = some (.tup [.ref sd, la, .ref na]) → H' na = some (.dK (kvs s'.names)) → H' sd = some (.lst (vls s'.said)) → Tp H' (lastD s'.last) la → Fr [] H H' → Q (.ref t) H'
theorem len_walked {c : CA} (vs : List V) (H : Hp) (Q : VK) (E : XK) (h : sp_walked c vs H Q E) : vs.length = 3 := by
  obtain ⟨_, _, _, _, _, _, rfl, _⟩ := h
  rfl
theorem beg_in {code : List Rw} {hts : List Nat} {m : Nms} {most : Int} (T : Ty code hts) (mo : NmOk m) : In code hts 0 (begS m most) := ⟨⟨mo, fun v hv => (by cases hv), fun v hv => (by cases hv)⟩, 0, T.zero, rfl⟩
section
variable {ta : TA} {te tl : TE} {g : TG} {tt : TT} {vs : List Nat} {σ : L2.St} {H : Hp} {Q : VK} {K : PySem.W.Frag}
theorem lcT {a : Addr} {xs : List V} (hv : ∀ R : VK, R (.ref a) H → tl σ H R) (hx : H a = some (.tup xs))
    (h : ∀ L, H L = none → ∃ Pv : Nat → Hp → Prop, Pv 0 (upd H L (.lst [])) ∧ (∀ i Hc, Pv i Hc → Hc a = some (.tup xs)) ∧ (∀ (i : Nat) x Hc, xs[i]? = some x → Pv i Hc → LcTurn g tt te vs σ L (Pv (i + 1)) x Hc) ∧ ∀ Hc, Pv xs.length Hc → Q (.ref L) Hc) :
    tLc (iTup K tl) g tt te vs σ H Q := by
  refine hv _ ⟨a, rfl, ⟨xs, SqT.of hx⟩, fun L hL => ?_⟩
  obtain ⟨Pv, h0, hl, hs, hd⟩ := h L hL
  refine lc_it walk_tup Pv h0 (fun i Hc _ p => SqT.of (hl i Hc p)) (fun i x H1 H2 hi p y => ?_) hd
  obtain ⟨e1, e2⟩ := y
  subst e1
  exact hs i x _ e2 p
end

def slF (o hd : Addr) : List (Str × V) := [("state", .ref o), ("held", .ref hd)]
section
variable {o hd : Addr}
theorem sl_state : (slF o hd).lookup ("state" : Str) = some (.ref o) := rfl
theorem sl_held : (slF o hd).lookup ("held" : Str) = some (.ref hd) := rfl
theorem sl_leave : (slF o hd).lookup ("leave" : Str) = none := rfl
theorem sl_work : (slF o hd).lookup ("work" : Str) = none := rfl
theorem sl_fails : (slF o hd).lookup ("fails" : Str) = none := rfl
end
structure SlAt (c : CA) (H : Hp) (so o hd : Addr) (h : Held) : Prop where
  ins : ∃ dx, H so = some (.ins c.slots dx (slF o hd))
  held : H hd = some (.dK (kvG nK Vl.v h))
theorem SlAt.keep {c : CA} {H H' : Hp} {so o hd : Addr} {h : Held} {S : List Addr} (a : SlAt c H so o hd h) (f : Fr S H H') (h1 : so ∉ S) (h2 : hd ∉ S) : SlAt c H' so o hd h := by
  obtain ⟨⟨dx, x⟩, y⟩ := a
  exact ⟨⟨dx, f.keep _ _ x h1⟩, f.keep _ _ y h2⟩
def sp_Slots___init__ (c : CA) : Sp := fun vs H Q _ => ∃ (so dx o : Addr), vs = [.ref so, .ref o] ∧ H so = some (.ins c.slots dx []) ∧ ∀ hd H', H hd = none → SlAt c H' so o hd [] → Fr [so] H H' → Q .non H'
theorem len_Slots___init__ {c : CA} (vs : List V) (H : Hp) (Q : VK) (E : XK) (h : sp_Slots___init__ c vs H Q E) : vs.length = 2 := by
  obtain ⟨_, _, _, rfl, _⟩ := h
  rfl
def sp_Slots_leave (c : CA) : Sp := fun vs H Q _ => ∃ (so o hd na sk sd : Addr) (v : V) (x : Qx) (h : Held) (s : MS), vs = [.ref so, v] ∧ SlAt c H so o hd h ∧ StAt c H o na sk sd s ∧ Tp H x.d v ∧ x.fit h ∧ s.ok ∧ (∀ p ∈ h, p.2.ok) ∧ hd ≠ na ∧
  ∀ sk' H', StAt c H' o na sk' sd (qleave x s h) → H sk' = none → Fr [o, na] H H' → Q .non H'
theorem len_Slots_leave {c : CA} (vs : List V) (H : Hp) (Q : VK) (E : XK) (h : sp_Slots_leave c vs H Q E) : vs.length = 2 := by
  obtain ⟨_, _, _, _, _, _, _, _, _, _, rfl, _⟩ := h
  rfl
def worksR : Qr → Prop
  | .num _ _ => True
  | .text _ _ => True
  | .get _ _ => True
  | .say _ => True
  | .put _ _ => True
  | .op _ _ _ _ _ => True
  | _ => False
def sp_Slots_work (c : CA) : Sp := fun vs H Q _ => ∃ (so o hd na sk sd : Addr) (v : V) (r : Qr) (d d' : QC), vs = [.ref so, v] ∧ SlAt c H so o hd d.held ∧ StAt c H o na sk sd d.s ∧ Tp H r.d v ∧ r.fit d ∧ d.s.ok ∧ (∀ p ∈ d.held, p.2.ok) ∧ d.held.length ≤ 1000000 ∧ d.s.said.length < 8000000 ∧ hd ≠ na ∧ worksR r ∧ qrow r d = .on d' ∧
  ∀ H', SlAt c H' so o hd d'.held → StAt c H' o na sk sd d'.s → Fr [hd, na, sd] H H' → Q .non H'
theorem len_Slots_work {c : CA} (vs : List V) (H : Hp) (Q : VK) (E : XK) (h : sp_Slots_work c vs H Q E) : vs.length = 2 := by
  obtain ⟨_, _, _, _, _, _, _, _, _, _, rfl, _⟩ := h
  rfl
def failsR (h : Held) : Qr → Bool
  | .is s k _ => !decide ((hget h s).kind = k)
  | .so s y _ => !decide ((hget h s).so = y)
  | _ => false
def sp_Slots_fails (c : CA) : Sp := fun vs H Q _ => ∃ (so o hd : Addr) (v : V) (r : Qr) (d : QC), vs = [.ref so, v] ∧ SlAt c H so o hd d.held ∧ Tp H r.d v ∧ r.fit d ∧ ∀ H', Fr [] H H' → Q (.bl (failsR d.held r)) H'
theorem len_Slots_fails {c : CA} (vs : List V) (H : Hp) (Q : VK) (E : XK) (h : sp_Slots_fails c vs H Q E) : vs.length = 2 := by
  obtain ⟨_, _, _, _, _, _, rfl, _⟩ := h
  rfl
def sp_run_quick (c : CA) : Sp := fun vs H Q _ => ∃ (v : V) (rows : List Qr) (o na sk sd : Addr) (s : MS), vs = [v, .ref o] ∧ Tp H (quickD rows) v ∧ StAt c H o na sk sd s ∧ rows[0]? = some .turn ∧ Safe rows ⟨s, [], 0⟩ ∧
  (∀ H' sk' d n s', QReach rows ⟨s, [], 0⟩ d → qstep rows d = .fall n s' → StAt c H' o na sk' sd s' → (sk' = sk ∨ H sk' = none) → Fr [o, na, sk, sd] H H' → Q (.int (n : Nat)) H') ∧
  (∀ H' sk' d s', QReach rows ⟨s, [], 0⟩ d → qstep rows d = .over s' → StAt c H' o na sk' sd s' → (sk' = sk ∨ H sk' = none) → Fr [o, na, sk, sd] H H' → Q (.int (-1)) H')
theorem len_run_quick {c : CA} (vs : List V) (H : Hp) (Q : VK) (E : XK) (h : sp_run_quick c vs H Q E) : vs.length = 2 := by
  obtain ⟨_, _, _, _, _, _, _, rfl, _⟩ := h
  rfl
/-- Slots.__init__ -/
def t_Slots___init__ (K : PySem.W.Frag) (c : CA) : TS :=
  (tSeq (xSet c.slots (tVar 0) (tVar 1) ("state" : Str))
    (xSet c.slots (tVar 0) xDic ("held" : Str)))

/-- Slots.leave from 1 -/
def t_Slots_leave_1 (K : PySem.W.Frag) (c : CA) : TS :=
  (tSeq (tFor (iTup K (tOp rXT (tVar 1) (tC (.int 1)))) (gTup K 2 (gCons (gName 2) (gCons (gName 3) gNil)))
    (xPutS (xFld c.state (xFld c.slots (tVar 0) ("state" : Str)) ("names" : Str)) (tVar 2) (tOp rGetI (xFld c.slots (tVar 0) ("held" : Str)) (tVar 3))))
    (xSet c.state (xFld c.slots (tVar 0) ("state" : Str)) (tLc (iTup K (tOp rXT (tVar 1) (tC (.int 2)))) (gName 3) tYes (tOp rGetI (xFld c.slots (tVar 0) ("held" : Str)) (tVar 3)) [3]) ("stack" : Str)))

/-- Slots.leave -/
def t_Slots_leave (K : PySem.W.Frag) (c : CA) : TS :=
  tSeq (xSet c.state (xFld c.slots (tVar 0) ("state" : Str)) (tOp rXT (tVar 1) (tC (.int 0))) ("place" : Str)) (t_Slots_leave_1 K c)

/-- Slots.work -/
def t_Slots_work (K : PySem.W.Frag) (c : CA) : TS :=
  (tSeq (tAsg (tOp rXT (tVar 1) (tC (.int 0))) (gName 2))
    (tIfS (tOr (tTest (tOp rEq (tVar 2) (tC (.str (wd 0))))) (tTest (tOp rEq (tVar 2) (tC (.str (wd 1)))))) (xPutI (xFld c.slots (tVar 0) ("held" : Str)) (tOp rXT (tVar 1) (tC (.int 1))) (tOp rXT (tVar 1) (tC (.int 2)))) (tIfS (tTest (tOp rEq (tVar 2) (tC (.str (wd 17))))) (xPutI (xFld c.slots (tVar 0) ("held" : Str)) (tOp rXT (tVar 1) (tC (.int 1))) (xGet2S (xFld c.state (xFld c.slots (tVar 0) ("state" : Str)) ("names" : Str)) (tOp rXT (tVar 1) (tC (.int 2))) (tC (.int 0)))) (tIfS (tTest (tOp rEq (tVar 2) (tC (.str (wd 7))))) (tDrop (tApp (xFld c.state (xFld c.slots (tVar 0) ("state" : Str)) ("said" : Str)) (tOp rGetI (xFld c.slots (tVar 0) ("held" : Str)) (tOp rXT (tVar 1) (tC (.int 1)))))) (tIfS (tTest (tOp rEq (tVar 2) (tC (.str (wd 20))))) (xPutS (xFld c.state (xFld c.slots (tVar 0) ("state" : Str)) ("names" : Str)) (tOp rXT (tVar 1) (tC (.int 1))) (tOp rGetI (xFld c.slots (tVar 0) ("held" : Str)) (tOp rXT (tVar 1) (tC (.int 2))))) (xPutI (xFld c.slots (tVar 0) ("held" : Str)) (tOp rXT (tVar 1) (tC (.int 2))) (tCall sp_worked [] E0 (tCons (tVar 2) (tCons (tOp rGetI (xFld c.slots (tVar 0) ("held" : Str)) (tOp rXT (tVar 1) (tC (.int 3)))) (tCons (tOp rGetI (xFld c.slots (tVar 0) ("held" : Str)) (tOp rXT (tVar 1) (tC (.int 4)))) tNil))))))))))

/-- Slots.fails from 1 -/
def t_Slots_fails_1 (K : PySem.W.Frag) (c : CA) : TS :=
  (tSeq (tIfS (tTest (tOp rEq (tOp rXT (tVar 1) (tC (.int 0))) (tC (.str (wd 19))))) (tRet (tOp rNe (tCB rInt1 (tCons (tCall sp_is_so [] E0 (tCons (tOp rGetI (xFld c.slots (tVar 0) ("held" : Str)) (tOp rXT (tVar 1) (tC (.int 1)))) tNil)) tNil)) (tOp rXT (tVar 1) (tC (.int 2))))) tNext)
    (tRet (tC (.bl false))))

/-- Slots.fails -/
def t_Slots_fails (K : PySem.W.Frag) (c : CA) : TS :=
  tSeq (tIfS (tTest (tOp rEq (tOp rXT (tVar 1) (tC (.int 0))) (tC (.str (wd 18))))) (tRet (tOp rNe (tCall sp_kind_of [] E0 (tCons (tOp rGetI (xFld c.slots (tVar 0) ("held" : Str)) (tOp rXT (tVar 1) (tC (.int 1)))) tNil)) (tOp rXT (tVar 1) (tC (.int 2))))) tNext) (t_Slots_fails_1 K c)

/-- run_quick from 1 -/
def t_run_quick_1 (K : PySem.W.Frag) (c : CA) : TS :=
  (tSeq (tAsg (tC (.int 0)) (gName 3))
    (tWhile (tB (tC (.bl true)))
    (tSeq (tAsg (tOp rXT (tVar 0) (tVar 3)) (gName 4))
    (tSeq (tIfS (tTest (tOp rEq (tOp rXT (tVar 4) (tC (.int 0))) (tC (.str (wd 16))))) (tIfS (tNot (tB (xMeth c.state ("turn" : Str) (sp_State_turn c) (tVar 1) tNil))) (tRet (tUn (rU fun i => .int (-i)) (tC (.int 1)))) tNext) (tIfS (tTest (tOp rEq (tOp rXT (tVar 4) (tC (.int 0))) (tC (.str (wd 22))))) (tSeq (tDrop (xMeth c.slots ("leave" : Str) (sp_Slots_leave c) (tVar 2) (tCons (tOp rXT (tVar 4) (tC (.int 1))) tNil)))
    (tRet (tVar 3))) (tIfS (tB (xMeth c.slots ("fails" : Str) (sp_Slots_fails c) (tVar 2) (tCons (tVar 4) tNil))) (tSeq (tDrop (xMeth c.slots ("leave" : Str) (sp_Slots_leave c) (tVar 2) (tCons (tOp rXT (tVar 4) (tC (.int 3))) tNil)))
    (tRet (tVar 3))) (tIfS (tTest (tOp (rInT true) (tOp rXT (tVar 4) (tC (.int 0))) (xTup (tCons (tC (.str (wd 18))) (tCons (tC (.str (wd 19))) (tCons (tC (.str (wd 21))) tNil)))))) (tDrop (xMeth c.slots ("work" : Str) (sp_Slots_work c) (tVar 2) (tCons (tVar 4) tNil))) tNext))))
    (tSeq (tAsg (tOp (rI0 fun i j => .int (i + j)) (tVar 3) (tC (.int 1))) (gName 3))
    (tIfS (tTest (tOp rEq (tOp rXT (tVar 4) (tC (.int 0))) (tC (.str (wd 21))))) (tAsg (tC (.int 0)) (gName 3)) tNext))))))

/-- run_quick -/
def t_run_quick (K : PySem.W.Frag) (c : CA) : TS :=
  tSeq (tAsg (xMake c.slots (sp_Slots___init__ c) (tCons (tVar 1) tNil)) (gName 2)) (t_run_quick_1 K c)

theorem rd_Slots___init__ {K : PySem.W.Frag} {c : CA} {vs : List V} {H : Hp} {Q : VK} {E : XK} (h : sp_Slots___init__ c vs H Q E) : t_Slots___init__ K c { nx := fun _ H' => Q .non H', rt := Q } (start ["_", "_"] vs) H := by
  obtain ⟨so, dx, o, rfl, ho, k⟩ := h
  show t_Slots___init__ K c _ [some (.ref so), some (.ref o)] H
  unfold t_Slots___init__; refine st_seq ?_
  push_cast [ho]
  refine ⟨lt1000 rfl, fun H1 M1 => ?_⟩
  replace ho := M1.at_
  push_cast
  intro hd H2 A2
  have f1 : Fr [so] H H1 := M1.fr (by simp)
  have nh : H hd = none := f1.free A2.new (by intro z; exact ne_of_none ho A2.new (List.mem_singleton.mp z).symm)
  replace ho := A2.k ho
  have hh := A2.at_
  push_cast [ho]
  refine ⟨lt1000 rfl, fun H3 M3 => ?_⟩
  replace hh := M3.k hh (ne_of hh ho (by simp)); replace ho := M3.at_
  exact k hd H3 nh ⟨⟨dx, ho⟩, hh⟩ ((f1.al A2).mu M3 (by simp))
theorem vheld {h : Held} {s : Nat} (hs : heldOk h s) : valV (kvG nK Vl.v h) (Sum.inl ((s : Nat) : Int)) = some (hget h s).v := by
  have e : valV (kvG nK Vl.v h) (Sum.inl ((s : Nat) : Int)) = (aget h s).map Vl.v := valV_kvG nK_inj s h
  rw [e]
  obtain ⟨x, hx⟩ := Option.isSome_iff_exists.mp hs
  unfold hget
  rw [hx]
  rfl
theorem hget_ok {h : Held} (hh : ∀ p ∈ h, p.2.ok) (s : Nat) : (hget h s).ok := by
  unfold hget
  cases e : aget h s with
  | none => exact ⟨by decide, by decide⟩
  | some x => exact hh _ (aget_mem e)
theorem pheld (h : Held) (s : Nat) (x : Vl) : putK (kvG nK Vl.v h) (Sum.inl ((s : Nat) : Int)) x.v = kvG nK Vl.v (aput h s x) := putK_kvG (f := nK) (g := Vl.v) nK_inj h s x
theorem tp_exit {H : Hp} {x : Qx} {v : V} (t : Tp H x.d v) : ∃ a a1 a2 ps, v = .ref a ∧ H a = some (.tup [.int (x.place : Nat), .ref a1, .ref a2]) ∧ H a1 = some (.tup ps) ∧ TpL H (x.names.map fun p => .tuple [.str p.1, .int (p.2 : Nat)]) ps ∧ H a2 = some (.tup (x.half.map nV)) := by
  unfold Qx.d at t
  simp only [tp_tup, tpl_cons, tpl_nil, tp_int] at t
  obtain ⟨a, xs, rfl, ha, _, r1, rfl, rfl, _, r2, rfl, ⟨a1, ps, rfl, h1, t1⟩, _, r3, rfl, ⟨a2, qs, rfl, h2, t2⟩, rfl⟩ := t
  have e : qs = x.half.map nV := by
    have go : ∀ (l : List Nat) (ys : List V), TpL H (l.map fun s => .int (s : Nat)) ys → ys = l.map nV := by
      intro l
      induction l with
      | nil => intro ys h; simp only [List.map_nil, tpl_nil] at h; exact h
      | cons s r ih =>
        intro ys h
        simp only [List.map_cons, tpl_cons, tp_int] at h
        obtain ⟨_, r', rfl, rfl, h⟩ := h
        rw [ih r' h]; rfl
    exact go _ _ t2
  rw [e] at h2
  exact ⟨a, a1, a2, ps, rfl, ha, h1, t1, h2⟩
def LvInv (c : CA) (H0 : Hp) (so o hd na sk sd : Addr) (h : Held) (s : MS) (x : Qx) (v : V) (a1 : Addr) (i : Nat) (σ : L2.St) (H : Hp) : Prop := ∃ σ2 σ3, σ = [some (.ref so), some v, σ2, σ3] ∧ SlAt c H so o hd h ∧
  StAt c H o na sk sd { s with place := x.place, names := (x.names.take i).foldl (fun n p => nput n p.1 (hget h p.2)) s.names } ∧ NmOk ((x.names.take i).foldl (fun n p => nput n p.1 (hget h p.2)) s.names) ∧ Fr [o, na] H0 H
def LvInv2 (H0 : Hp) (x : Qx) (h : Held) (L : Addr) (i : Nat) (H : Hp) : Prop := H L = some (.lst (((x.half.take i).map (hget h)).map Vl.v)) ∧ Fr [] H0 H
theorem rd_Slots_leave {K : PySem.W.Frag} {c : CA} {vs : List V} {H : Hp} {Q : VK} {E : XK} (h : sp_Slots_leave c vs H Q E) : t_Slots_leave K c { nx := fun _ H' => Q .non H', rt := Q } (start ["_", "_", "_", "_"] vs) H := by
  obtain ⟨so, o, hd, na, sk, sd, v, x, h', s, rfl, SL, ST, tx, fx, ok, hok, nhn, k⟩ := h
  show t_Slots_leave K c _ [some (.ref so), some v, none, none] H
  obtain ⟨a, a1, a2, ps, rfl, ha, h1, t1, h2⟩ := tp_exit tx
  have hh1 := h1
  have hh2 := h2
  have hha := ha
  have tt1 := t1
  obtain ⟨⟨dxs, hso⟩, hhd⟩ := SL
  obtain ⟨⟨dx, la, ho, hla⟩, hna, hsk, hsd, ne⟩ := ST
  have nso : so ≠ o := ne_of hso ho (by simp [slF, stF])
  unfold t_Slots_leave; refine st_seq ?_
  push_cast [ha, hso, sl_state, ho]
  refine ⟨st_len, fun H1 M1 => ?_⟩
  replace hso := M1.k hso nso
  replace hna := M1.k hna (ne_of hna ho (by simp)); replace hsk := M1.k hsk (ne_of hsk ho (by simp)); replace hsd := M1.k hsd (ne_of hsd ho (by simp)); replace hhd := M1.k hhd (ne_of hhd ho (by simp)); replace ho := M1.at_
  rw [sp_place] at ho
  replace t1 := t1.tups M1.tu; replace hla := hla.tups M1.tu
  replace ha := M1.tu _ _ ha
  replace h1 := M1.tu _ _ h1
  replace h2 := M1.tu _ _ h2
  have f1 : Fr [o, na] H H1 := M1.fr (by simp)
  unfold t_Slots_leave_1; refine st_seq ?_
  refine ⟨_, rfl, a, _, _, _, rfl, rfl, ha, atI1 _ _ _, a1, rfl, ⟨_, SqT.of h1⟩, for_it (walk_tup (xs := ps)) (LvInv c H so o hd na sk sd h' s x (.ref a) a1) ⟨none, none, rfl, ⟨⟨dxs, hso⟩, hhd⟩, ⟨⟨dx, la, ho, hla⟩, hna, hsk, hsd, ne⟩, ok.nm, f1⟩ ?_ ?_ ?_⟩
  · rintro i σ Hc _ ⟨_, _, rfl, _, _, _, g⟩
    exact SqT.of (g.tu _ _ hh1)
  · rintro i z σ Hc H' hi ⟨σ2, σ3, rfl, ⟨⟨dxs, hso⟩, hhd⟩, ⟨⟨dx, la, ho, hla⟩, hna, hsk, hsd, ne⟩, nok, g⟩ ⟨rfl, hz⟩
    obtain ⟨d, hd1, hd2⟩ := tt1.get' hz
    obtain ⟨p, hp, rfl⟩ := map_get hd1
    have mp := mem_of_get hp
    obtain ⟨p8, ph⟩ := fx.1 p mp
    replace hd2 := hd2.tups g.tu
    simp only [tp_tup, tpl_cons, tpl_nil, tp_str, tp_int] at hd2
    obtain ⟨t, ys, rfl, ht, _, r1, rfl, rfl, _, r2, rfl, rfl, rfl⟩ := hd2
    refine ⟨t, _, rfl, SqT.of ht, rfl, ?_⟩
    push_cast [hso, sl_held, hhd, vheld ph, sl_state, ho, st_names, hna]
    refine ⟨bigL (by rw [kvs_length]; have := nok.len; omega), fun H2 M2 => ?_⟩
    replace hhd := M2.k hhd nhn
    replace hso := M2.k hso (ne_of hso hna (by simp)); replace ho := M2.k ho (ne_of ho hna (by simp)); replace hsk := M2.k hsk (ne_of hsk hna (by simp)); replace hsd := M2.k hsd (ne_of hsd hna (by simp)); replace hna := M2.at_
    rw [putK_kvs] at hna
    have e : (x.names.take (i + 1)).foldl (fun n p => nput n p.1 (hget h' p.2)) s.names = nput ((x.names.take i).foldl (fun n p => nput n p.1 (hget h' p.2)) s.names) p.1 (hget h' p.2) := by rw [take_snoc hp, List.foldl_append]; rfl
    refine ⟨_, _, rfl, ⟨⟨dxs, hso⟩, hhd⟩, ?_, ?_, g.mu M2 (by simp)⟩
    · rw [e]; exact ⟨⟨dx, la, ho, hla.tups M2.tu⟩, hna, hsk, hsd, ne⟩
    · rw [e]; exact nok.put p8 (hget_ok hok _)
  · rintro σ Hc ⟨σ2, σ3, rfl, ⟨⟨dxs, hso⟩, hhd⟩, ⟨⟨dx, la, ho, hla⟩, hna, hsk, hsd, ne⟩, nok, g⟩
    have lp : ps.length = x.names.length := by rw [tt1.length, List.length_map]
    rw [lp, List.take_length] at hna
    push_cast
    refine lcT (a := a2) (xs := x.half.map nV) (fun R h => by push_cast [g.tu _ _ hha]; exact h) (g.tu _ _ hh2) fun L hL => ?_
    have A0 := Al.of (o := HO.lst []) hL
    refine ⟨LvInv2 Hc x h' L, ⟨A0.at_, A0.fr⟩, ?_, ?_, ?_⟩
    · rintro i Hd ⟨_, g2⟩
      exact g2.tu _ _ (g.tu _ _ hh2)
    · rintro i z Hd hz ⟨g1, g2⟩
      obtain ⟨n, hn, rfl⟩ := map_get hz
      have mn := mem_of_get hn
      have keep : ∀ a u, Hc a = some u → Hd a = some u := fun a u h => g2.keep a u h (by simp)
      show LcTurn _ _ _ _ _ _ _ _ _
      unfold LcTurn
      push_cast [wipe, tYes, keep _ _ hso, sl_held, keep _ _ hhd, vheld (fx.2.1 n mn), nV]
      have M := Mu.of (o := .lst (((x.half.take i).map (hget h')).map Vl.v ++ [(hget h' n).v])) g1 fun _ z => by cases z
      refine ⟨_, g1, bigL (by simp only [List.length_map, List.length_take]; have := fx.2.2.2; omega), ?_, g2.muN M hL⟩
      rw [M.at_, take_snoc hn]
      simp
    · rintro Hd ⟨g1, g2⟩
      have keep : ∀ a u, Hc a = some u → Hd a = some u := fun a u h => g2.keep a u h (by simp)
      rw [List.length_map, List.take_length] at g1
      have nL : L ≠ sd := fun e => ne_of_none hsd hL e.symm
      replace ho := keep _ _ ho
      replace hna := keep _ _ hna
      replace hsd := keep _ _ hsd
      replace hso := keep _ _ hso
      push_cast [hso, sl_state, ho]
      refine ⟨st_len, fun H3 M3 => ?_⟩
      replace hna := M3.k hna (ne_of hna ho (by simp)); replace hsd := M3.k hsd (ne_of hsd ho (by simp)); replace g1 := M3.k g1 (ne_of g1 ho (by simp)); replace ho := M3.at_
      rw [sp_stack] at ho
      have nH : H L = none := by
        by_cases hz : L ∈ [o, na]
        · simp only [List.mem_cons, List.not_mem_nil, or_false] at hz
          rcases hz with rfl | rfl
          · exact absurd rfl (ne_of g1 ho (by simp))
          · exact absurd rfl (ne_of g1 hna (by simp))
        · exact g.free hL hz
      refine k L H3 ⟨⟨dx, la, ho, (hla.tups g2.tu).tups M3.tu⟩, hna, ?_, hsd, nL⟩ nH ((g.trans g2.sub0).mu M3 (by simp))
      rw [g1]
      simp [qleave, vls]

theorem tp3 {H : Hp} {a : Str} {d e : PyData} {v : V} (h : Tp H (.tuple [.str a, d, e]) v) : ∃ p x y, v = .ref p ∧ H p = some (.tup [.str a, x, y]) ∧ Tp H d x ∧ Tp H e y := by
  simp only [tp_tup, tpl_cons, tpl_nil, tp_str] at h
  obtain ⟨p, xs, rfl, hp, _, r1, rfl, rfl, x, r2, rfl, hx, y, r3, rfl, hy, rfl⟩ := h
  exact ⟨p, x, y, rfl, hp, hx, hy⟩
theorem tp4 {H : Hp} {a : Str} {d e f : PyData} {v : V} (h : Tp H (.tuple [.str a, d, e, f]) v) : ∃ p x y z, v = .ref p ∧ H p = some (.tup [.str a, x, y, z]) ∧ Tp H d x ∧ Tp H e y ∧ Tp H f z := by
  simp only [tp_tup, tpl_cons, tpl_nil, tp_str] at h
  obtain ⟨p, xs, rfl, hp, _, r1, rfl, rfl, x, r2, rfl, hx, y, r3, rfl, hy, z, r4, rfl, hz, rfl⟩ := h
  exact ⟨p, x, y, z, rfl, hp, hx, hy, hz⟩
theorem tp5 {H : Hp} {a b : Str} {i j k : Int} {v : V} (h : Tp H (.tuple [.str a, .str b, .int i, .int j, .int k]) v) : ∃ p, v = .ref p ∧ H p = some (.tup [.str a, .str b, .int i, .int j, .int k]) := by
  simp only [tp_tup, tpl_cons, tpl_nil, tp_str, tp_int] at h
  obtain ⟨p, xs, rfl, hp, _, r1, rfl, rfl, _, r2, rfl, rfl, _, r3, rfl, rfl, _, r4, rfl, rfl, _, r5, rfl, rfl, rfl⟩ := h
  exact ⟨p, rfl, hp⟩
theorem tp2 {H : Hp} {a : Str} {d : PyData} {v : V} (h : Tp H (.tuple [.str a, d]) v) : ∃ p x, v = .ref p ∧ H p = some (.tup [.str a, x]) ∧ Tp H d x := by
  simp only [tp_tup, tpl_cons, tpl_nil, tp_str] at h
  obtain ⟨p, xs, rfl, hp, _, r1, rfl, rfl, x, r2, rfl, hx, rfl⟩ := h
  exact ⟨p, x, rfl, hp, hx⟩
theorem atI4 {α : Type} (x y z u w : α) (r : List α) : atI (x :: y :: z :: u :: w :: r) 4 = some w := atI_nat (j := 4) rfl
theorem rd_Slots_work {K : PySem.W.Frag} {c : CA} {vs : List V} {H : Hp} {Q : VK} {E : XK} (h : sp_Slots_work c vs H Q E) : t_Slots_work K c { nx := fun _ H' => Q .non H', rt := Q } (start ["_", "_", "_"] vs) H := by
  obtain ⟨so, o, hd, na, sk, sd, v, r, d, d', rfl, SL, ST, tr, fr, ok, hok, hl, sl, nhn, wr, eq, k⟩ := h
  show t_Slots_work K c _ [some (.ref so), some v, none] H
  obtain ⟨⟨dxs, hso⟩, hhd⟩ := SL
  have S0 := ST
  obtain ⟨⟨dx, la, ho, hla⟩, hna, hsk, hsd, ne⟩ := ST
  have hput : ∀ (s : Nat) (x : Vl) (H1 : Hp), Mu H hd (.dK (putK (kvG nK Vl.v d.held) (Sum.inl ((s : Nat) : Int)) x.v)) H1 → SlAt c H1 so o hd (aput d.held s x) ∧ StAt c H1 o na sk sd d.s := by
    intro s x H1 M
    rw [pheld] at M
    exact ⟨⟨⟨dxs, M.k hso (ne_of hso hhd (by simp))⟩, M.at_⟩, ⟨dx, la, M.k ho (ne_of ho hhd (by simp)), hla.tups M.tu⟩, M.k hna nhn.symm, M.k hsk (ne_of hsk hhd (by simp)), M.k hsd (ne_of hsd hhd (by simp)), ne⟩
  have lh : (kvG nK Vl.v d.held).length < sizeLine := bigL (by rw [kvG_length]; omega)
  unfold t_Slots_work; refine st_seq ?_
  cases r with
  | num s n =>
    obtain ⟨p, x, y, rfl, hp, hx, hy⟩ := tp3 tr
    simp only [tp_int] at hx hy
    subst hx hy
    simp only [qrow] at eq
    cases eq
    push_cast [hp, hso, sl_held, hhd]
    refine ⟨lh, fun H1 M1 => ?_⟩
    obtain ⟨a1, a2⟩ := hput s (.n n) H1 M1
    exact k H1 a1 a2 (M1.fr (by simp))
  | text s n =>
    obtain ⟨p, x, y, rfl, hp, hx, hy⟩ := tp3 tr
    simp only [tp_int, tp_str] at hx hy
    subst hx hy
    simp only [qrow] at eq
    cases eq
    push_cast [hp, hso, sl_held, hhd]
    refine ⟨lh, fun H1 M1 => ?_⟩
    obtain ⟨a1, a2⟩ := hput s (.t n) H1 M1
    exact k H1 a1 a2 (M1.fr (by simp))
  | get s n =>
    obtain ⟨p, x, y, rfl, hp, hx, hy⟩ := tp3 tr
    simp only [tp_int, tp_str] at hx hy
    subst hx hy
    simp only [qrow] at eq
    cases eq
    push_cast [hp, hso, sl_state, ho, st_names, hna, valV_kvs, getD_v, sl_held, hhd]
    refine ⟨lh, fun H1 M1 => ?_⟩
    obtain ⟨a1, a2⟩ := hput s _ H1 M1
    exact k H1 a1 a2 (M1.fr (by simp))
  | say s =>
    obtain ⟨p, rfl, hp⟩ := tp2i tr
    simp only [qrow] at eq
    cases eq
    push_cast [hp, hso, sl_state, ho, st_said, hsd, sl_held, hhd, vheld fr]
    refine ⟨bigL (by simp [vls]; omega), fun H1 M1 => ?_⟩
    replace hsk := M1.k hsk ne
    replace hso := M1.k hso (ne_of hso hsd (by simp)); replace ho := M1.k ho (ne_of ho hsd (by simp)); replace hna := M1.k hna (ne_of hna hsd (by simp)); replace hhd := M1.k hhd (ne_of hhd hsd (by simp)); replace hsd := M1.at_
    exact k H1 ⟨⟨dxs, hso⟩, hhd⟩ ⟨⟨dx, la, ho, hla.tups M1.tu⟩, hna, hsk, by rw [hsd, vls_snoc], ne⟩ (M1.fr (by simp))
  | put n s =>
    obtain ⟨p, x, y, rfl, hp, hx, hy⟩ := tp3 tr
    simp only [tp_int, tp_str] at hx hy
    subst hx hy
    simp only [qrow] at eq
    cases eq
    push_cast [hp, hso, sl_state, ho, st_names, hna, sl_held, hhd, vheld fr.2]
    refine ⟨bigL (by rw [kvs_length]; have := ok.nm.len; omega), fun H1 M1 => ?_⟩
    replace hhd := M1.k hhd nhn
    replace hso := M1.k hso (ne_of hso hna (by simp)); replace ho := M1.k ho (ne_of ho hna (by simp)); replace hsk := M1.k hsk (ne_of hsk hna (by simp)); replace hsd := M1.k hsd (ne_of hsd hna (by simp)); replace hna := M1.at_
    rw [putK_kvs] at hna
    exact k H1 ⟨⟨dxs, hso⟩, hhd⟩ ⟨⟨dx, la, ho, hla.tups M1.tu⟩, hna, hsk, hsd, ne⟩ (M1.fr (by simp))
  | op g kd s a b =>
    obtain ⟨p, rfl, hp⟩ := tp5 tr
    obtain ⟨fa, fb, fw⟩ := fr
    obtain ⟨z, hz⟩ := Option.isSome_iff_exists.mp fw
    simp only [qrow, hz] at eq
    cases eq
    have S1 : (g.s = wd 0) = False ∧ (g.s = wd 1) = False ∧ (g.s = wd 17) = False ∧ (g.s = wd 7) = False ∧ (g.s = wd 20) = False := by
      have hg : 3 ≤ g.ix ∧ g.ix ≤ 6 := by cases g <;> decide
      simp only [sg_eq g _ (show 0 < 42 by decide), sg_eq g _ (show 1 < 42 by decide), sg_eq g _ (show 17 < 42 by decide), sg_eq g _ (show 7 < 42 by decide), sg_eq g _ (show 20 < 42 by decide)]
      refine ⟨?_, ?_, ?_, ?_, ?_⟩ <;> simp only [eq_iff_iff, iff_false] <;> omega
    obtain ⟨z0, z1, z17, z7, z20⟩ := S1
    push_cast [hp, z0, z1, z17, z7, z20, hso, sl_held, hhd, vheld fa, vheld fb, atI4]
    refine ⟨g, _, _, rfl, hget_ok hok _, hget_ok hok _, fun H1 f1 => ?_⟩
    have keep : ∀ a u, H a = some u → H1 a = some u := fun a u h => f1.keep a u h (by simp)
    rw [hz]
    push_cast [keep _ _ hso, sl_held, keep _ _ hhd, keep _ _ hp]
    refine ⟨lh, fun H2 M2 => ?_⟩
    simp only [ov] at M2
    rw [pheld] at M2
    replace hso := keep _ _ hso
    replace hhd := keep _ _ hhd
    replace ho := keep _ _ ho
    replace hna := M2.k (keep _ _ hna) nhn.symm
    replace hsk := keep _ _ hsk
    replace hsd := keep _ _ hsd
    replace hso := M2.k hso (ne_of hso hhd (by simp)); replace ho := M2.k ho (ne_of ho hhd (by simp)); replace hsk := M2.k hsk (ne_of hsk hhd (by simp)); replace hsd := M2.k hsd (ne_of hsd hhd (by simp)); replace hhd := M2.at_
    exact k H2 ⟨⟨dxs, hso⟩, hhd⟩ ⟨⟨dx, la, ho, (hla.tups f1.tu).tups M2.tu⟩, hna, hsk, hsd, ne⟩ ((f1.sub0).mu M2 (by simp))
  | turn => exact wr.elim
  | is s kd ox => exact wr.elim
  | so s y ox => exact wr.elim
  | again => exact wr.elim
  | leave ox => exact wr.elim
def Qr.wx : Qr → Str
  | .turn => wd 16
  | .num _ _ => wd 0
  | .text _ _ => wd 1
  | .get _ _ => wd 17
  | .is _ _ _ => wd 18
  | .so _ _ _ => wd 19
  | .op g _ _ _ _ => g.s
  | .say _ => wd 7
  | .put _ _ => wd 20
  | .again => wd 21
  | .leave _ => wd 22
theorem tp_qr {H : Hp} {r : Qr} {v : V} (h : Tp H r.d v) : ∃ p ys, v = .ref p ∧ H p = some (.tup (.str r.wx :: ys)) := by
  have go : ∀ (w : Str) (ds : List PyData), Tp H (.tuple (.str w :: ds)) v → ∃ p ys, v = .ref p ∧ H p = some (.tup (.str w :: ys)) := by
    intro w ds h
    rw [tp_tup] at h
    obtain ⟨p, xs, rfl, hp, hx⟩ := h
    rw [tpl_cons] at hx
    obtain ⟨y, ys, rfl, hy, _⟩ := hx
    rw [tp_str] at hy
    subst hy
    exact ⟨p, ys, rfl, hp⟩
  cases r <;> exact go _ _ h
theorem wx_18 (r : Qr) (h : ∀ s k o, r ≠ .is s k o) : (r.wx = wd 18) = False := by
  cases r with
  | is s k o => exact absurd rfl (h s k o)
  | op g _ _ _ _ => cases g <;> simp [Qr.wx, Sg.s, Sg.ix, wd_eq]
  | _ => simp [Qr.wx, wd_eq]
theorem wx_19 (r : Qr) (h : ∀ s k o, r ≠ .so s k o) : (r.wx = wd 19) = False := by
  cases r with
  | so s k o => exact absurd rfl (h s k o)
  | op g _ _ _ _ => cases g <;> simp [Qr.wx, Sg.s, Sg.ix, wd_eq]
  | _ => simp [Qr.wx, wd_eq]
theorem rd_Slots_fails {K : PySem.W.Frag} {c : CA} {vs : List V} {H : Hp} {Q : VK} {E : XK} (h : sp_Slots_fails c vs H Q E) : t_Slots_fails K c { nx := fun _ H' => Q .non H', rt := Q } (start ["_", "_"] vs) H := by
  obtain ⟨so, o, hd, v, r, d, rfl, ⟨⟨dxs, hso⟩, hhd⟩, tr, fr, k⟩ := h
  show t_Slots_fails K c _ [some (.ref so), some v] H
  have els : (∀ s k o, r ≠ .is s k o) → (∀ s k o, r ≠ .so s k o) → t_Slots_fails K c { nx := fun _ H' => Q .non H', rt := Q } [some (.ref so), some v] H := by
    intro h1 h2
    obtain ⟨p, ys, rfl, hp⟩ := tp_qr tr
    have e1 := wx_18 r h1
    have e2 := wx_19 r h2
    have e3 : failsR d.held r = false := by
      cases r with
      | is s k' o' => exact absurd rfl (h1 s k' o')
      | so s k' o' => exact absurd rfl (h2 s k' o')
      | _ => rfl
    rw [e3] at k
    unfold t_Slots_fails; refine st_seq ?_
    push_cast [hp, e1]
    unfold t_Slots_fails_1; refine st_seq ?_
    push_cast [hp, e2]
    exact k H (.refl _ _)
  cases r with
  | is s kd ox =>
    obtain ⟨p, x, y, z, rfl, hp, hx, hy, hz⟩ := tp4 tr
    simp only [tp_int, tp_str] at hx hy
    subst hx hy
    unfold t_Slots_fails; refine st_seq ?_
    push_cast [hp, hso, sl_held, hhd, vheld fr.1]
    refine ⟨_, rfl, ?_⟩
    push_cast [hp]
    have e : (!decide ((hget d.held s).kd = kd.s)) = failsR d.held (.is s kd ox) := by
      simp only [failsR, Vl.kd_kind, Kd.s_inj]
    rw [e]
    exact k H (.refl _ _)
  | so s yy ox =>
    obtain ⟨p, x, y, z, rfl, hp, hx, hy, hz⟩ := tp4 tr
    simp only [tp_int, tp_str] at hx hy
    subst hx hy
    unfold t_Slots_fails; refine st_seq ?_
    push_cast [hp]
    unfold t_Slots_fails_1; refine st_seq ?_
    push_cast [hp, hso, sl_held, hhd, vheld fr.1]
    refine ⟨_, rfl, fun H1 f1 => ?_⟩
    push_cast [f1.tu _ _ hp]
    have e : (!decide ((if (hget d.held s).so = true then (1 : Int) else 0) = b2n yy)) = failsR d.held (.so s yy ox) := by
      simp only [failsR]
      cases (hget d.held s).so <;> cases yy <;> rfl
    rw [e]
    exact k H1 f1
  | turn => exact els (by simp) (by simp)
  | num s n => exact els (by simp) (by simp)
  | text s n => exact els (by simp) (by simp)
  | get s n => exact els (by simp) (by simp)
  | op g kd s a b => exact els (by simp) (by simp)
  | say s => exact els (by simp) (by simp)
  | put n s => exact els (by simp) (by simp)
  | again => exact els (by simp) (by simp)
  | leave ox => exact els (by simp) (by simp)

theorem qmu_step {rows : List Qr} {d e : QC} (h0 : rows[0]? = some .turn) (hl : d.at_ < rows.length) (h : qstep rows d = .on e) : qmu rows e < qmu rows d := by
  obtain ⟨r, hr⟩ : ∃ r, rows[d.at_]? = some r := ⟨_, List.getElem?_eq_getElem hl⟩
  unfold qstep at h
  rw [hr] at h
  simp only at h
  by_cases ha : d.at_ = 0
  · rw [ha, h0] at hr
    cases hr
    simp only [qrow] at h
    split at h
    · cases h
    · next hn =>
      cases h
      unfold qmu
      simp only [ha, Nat.zero_add, Nat.one_ne_zero, if_false, if_true]
      have e1 : (d.s.left - 1).toNat + 1 = d.s.left.toNat := by omega
      rw [e1]
      omega
  · have nx : ∀ (s : MS) (hh : Held), s.left = d.s.left → qmu rows ⟨s, hh, d.at_ + 1⟩ < qmu rows d := by
      intro s hh hs
      unfold qmu
      simp only [hs, ha, Nat.add_one_ne_zero, if_false]
      omega
    cases r with
    | turn =>
      simp only [qrow] at h
      split at h
      · cases h
      · cases h
        unfold qmu
        simp only [ha, Nat.add_one_ne_zero, if_false]
        have : (d.s.left - 1).toNat * (rows.length + 2) ≤ d.s.left.toNat * (rows.length + 2) := Nat.mul_le_mul_right _ (by omega)
        rw [Nat.succ_mul, Nat.succ_mul]
        omega
    | num s n => simp only [qrow] at h; cases h; exact nx _ _ rfl
    | text s n => simp only [qrow] at h; cases h; exact nx _ _ rfl
    | get s n => simp only [qrow] at h; cases h; exact nx _ _ rfl
    | is s k o => simp only [qrow] at h; split at h <;> cases h; exact nx _ _ rfl
    | so s k o => simp only [qrow] at h; split at h <;> cases h; exact nx _ _ rfl
    | op g k s a b => simp only [qrow] at h; split at h <;> cases h; exact nx _ _ rfl
    | say s => simp only [qrow] at h; cases h; exact nx _ _ rfl
    | put n s => simp only [qrow] at h; cases h; exact nx _ _ rfl
    | again =>
      simp only [qrow] at h
      cases h
      unfold qmu
      simp only [ha, if_false, if_true]
      rw [Nat.succ_mul]
      omega
    | leave o => simp only [qrow] at h; cases h
def RqInv (c : CA) (H0 : Hp) (rows : List Qr) (s : MS) (v : V) (o so hd na sk sd : Addr) (m : Nat) (σ : L2.St) (H : Hp) : Prop := ∃ (d : QC) (σ4 : Option V), σ = [some v, some (.ref o), some (.ref so), some (.int (d.at_ : Nat)), σ4] ∧ SlAt c H so o hd d.held ∧ StAt c H o na sk sd d.s ∧ QReach rows ⟨s, [], 0⟩ d ∧ Fr [o, na, sk, sd] H0 H ∧ qmu rows d < m
theorem quick_at {H : Hp} {rows : List Qr} {v : V} {p : Nat} {r : Qr} (t : Tp H (quickD rows) v) (h : rows[p]? = some r) : ∃ a ws y, v = .ref a ∧ H a = some (.tup ws) ∧ atI ws ((p : Nat) : Int) = some y ∧ Tp H r.d y := by
  unfold quickD at t
  rw [tp_tup] at t
  obtain ⟨a, xs, rfl, ha, hx⟩ := t
  obtain ⟨y, hy, ty⟩ := hx.get (i := p) (d := r.d) (by rw [List.getElem?_map, h]; rfl)
  exact ⟨a, xs, y, rfl, ha, atI_nat hy, ty⟩
theorem wx_ne (r : Qr) (i : Nat) (hi : i < 42) (h : ∀ j, j < 42 → r.wx = wd j → j ≠ i) : (r.wx = wd i) = False := eq_false fun e => h i hi e rfl
theorem wx_21 (r : Qr) (h : r ≠ .again) : (r.wx = wd 21) = False := by
  cases r with
  | again => exact absurd rfl h
  | op g _ _ _ _ => cases g <;> simp [Qr.wx, Sg.s, Sg.ix, wd_eq]
  | _ => simp [Qr.wx, wd_eq]
theorem works_on {r : Qr} {d : QC} (wr : worksR r) (fr : r.fit d) : ∃ d', qrow r d = .on d' ∧ d'.at_ = d.at_ + 1 := by
  cases r with
  | num s n => exact ⟨_, rfl, rfl⟩
  | text s n => exact ⟨_, rfl, rfl⟩
  | get s n => exact ⟨_, rfl, rfl⟩
  | say s => exact ⟨_, rfl, rfl⟩
  | put n s => exact ⟨_, rfl, rfl⟩
  | op g k s a b =>
    obtain ⟨z, hz⟩ := Option.isSome_iff_exists.mp fr.2.2
    exact ⟨⟨d.s, aput d.held s z, d.at_ + 1⟩, by simp only [qrow, hz], rfl⟩
  | _ => exact wr.elim
theorem rd_run_quick {K : PySem.W.Frag} {c : CA} {vs : List V} {H : Hp} {Q : VK} {E : XK} (h : sp_run_quick c vs H Q E) : t_run_quick K c { nx := fun _ H' => Q .non H', rt := Q } (start ["_", "_", "_", "_", "_"] vs) H := by
  obtain ⟨v, rows, o, na, sk, sd, s, rfl, tv, ST, h0, safe, k1, k2⟩ := h
  show t_run_quick K c _ [some v, some (.ref o), none, none, none] H
  unfold t_run_quick; refine st_seq ?_
  push_cast
  intro so dx H1 A1
  refine ⟨so, dx, o, rfl, A1.at_, fun hd H2 nh SL f2 => ⟨rfl, ?_⟩⟩
  have nso : so ∉ [o, na, sk, sd] := fun hz => ST.there _ hz A1.new
  have nhd0 : H hd = none := A1.fr (S := []) |>.free nh (by simp)
  have nhd : hd ∉ [o, na, sk, sd] := fun hz => ST.there _ hz nhd0
  have nhn : hd ≠ na := fun e => nhd (by rw [e]; simp)
  have F2 : Fr [so] H H2 := A1.fr.trans f2
  have S2 : StAt c H2 o na sk sd s := ST.keep F2 (fun x hx hz => nso (by rw [← List.mem_singleton.mp hz]; exact hx))
  have F2' : Fr [o, na, sk, sd] H H2 := F2.drop A1.new |>.sub0
  unfold t_run_quick_1; refine st_seq ?_
  push_cast
  refine ⟨RqInv c H rows s v o so hd na sk sd, ⟨_, ⟨s, [], 0⟩, none, rfl, SL, S2, .refl _, F2', Nat.lt_succ_self _⟩, ?_⟩
  rintro m σ H3 ⟨d, σ4, rfl, SL3, S3, re, f3, mk⟩
  push_cast
  refine ⟨fun σ' H' => ∃ m', m' < m ∧ RqInv c H rows s v o so hd na sk sd m' σ' H', fun _ _ h => h, ?_⟩
  obtain ⟨⟨r, hr, fr⟩, ok, hok, hl, sl⟩ := safe d re
  have lt : d.at_ < rows.length := (List.getElem?_eq_some_iff.mp hr).1
  have qs : qstep rows d = qrow r d := by unfold qstep; rw [hr]
  obtain ⟨a, ws, y, rfl, ha, hix, ty⟩ := quick_at (tv.tups f3.tu) hr
  obtain ⟨dxs3, hso⟩ := SL3.ins
  obtain ⟨dx3, la, ho, hla⟩ := S3.ins
  have nxt : ∀ (e : QC) (H4 : Hp) (y4 : V), qrow r d = .on e → SlAt c H4 so o hd e.held → StAt c H4 o na sk sd e.s → Fr [o, na, sk, sd] H H4 → ∃ m', m' < m ∧ RqInv c H rows s (.ref a) o so hd na sk sd m' [some (.ref a), some (.ref o), some (.ref so), some (.int (e.at_ : Nat)), some y4] H4 := by
    intro e H4 y4 he SL4 S4 f4
    rw [← qs] at he
    exact ⟨qmu rows d, mk, e, _, rfl, SL4, S4, re.snoc he, f4, qmu_step h0 lt he⟩
  have lvs : ∀ (x : Qx) (H4 : Hp) (vx y4 : V), Tp H4 x.d vx → x.fit d.held → qrow r d = .fall d.at_ (qleave x d.s d.held) → SlAt c H4 so o hd d.held → StAt c H4 o na sk sd d.s → Fr [o, na, sk, sd] H H4 → sp_Slots_leave c [.ref so, vx] H4 (fun _ H5 => Q (.int (d.at_ : Nat)) H5) E0 := by
    intro x H4 vx y4 tx fx he SL4 S4 f4
    refine ⟨so, o, hd, na, sk, sd, vx, x, d.held, d.s, rfl, SL4, S4, tx, fx, ok, hok, nhn, fun sk' H5 S5 nsk f5 => ?_⟩
    refine k1 H5 sk' d _ _ re (by rw [qs]; exact he) S5 ?_ (f4.trans (f5.mono (by simp +contextual)))
    by_cases hz : sk' ∈ [o, na, sk, sd]
    · exact absurd nsk (S4.there _ hz)
    · exact .inr (f4.free nsk hz)
  refine st_seq ?_
  push_cast [ha, hix]
  refine st_seq ?_
  have els : r ≠ .turn → (∀ x, r ≠ .leave x) → (r.wx = wd 16) = False ∧ (r.wx = wd 22) = False := by
    intro h1 h2
    cases r with
    | turn => exact absurd rfl h1
    | leave x => exact absurd rfl (h2 x)
    | op g _ _ _ _ => cases g <;> simp [Qr.wx, Sg.s, Sg.ix, wd_eq]
    | _ => simp [Qr.wx, wd_eq]
  by_cases hturn : r = .turn
  · subst hturn
    obtain ⟨p, rfl, hp⟩ := tp1 ty
    push_cast [hp, ho, st_turn]
    refine ⟨o, na, sk, sd, d.s, rfl, S3, fun H4 S4 f4 => ?_⟩
    have f4' : Fr [o, na, sk, sd] H H4 := f3.trans (f4.mono (by simp))
    by_cases hneg : d.s.left - 1 < 0
    · simp only [if_pos hneg] at S4
      rw [decide_eq_false (by omega : ¬ 0 ≤ d.s.left - 1)]
      push_cast
      exact k2 H4 sk d _ re (by rw [qs]; simp only [qrow, if_pos hneg]) S4 (.inl rfl) f4'
    · simp only [if_neg hneg] at S4
      rw [decide_eq_true (by omega : 0 ≤ d.s.left - 1)]
      push_cast
      have SL4 := SL3.keep f4 (fun hz => nso (by rw [List.mem_singleton.mp hz]; simp)) (fun hz => nhd (by rw [List.mem_singleton.mp hz]; simp))
      refine st_seq ?_
      push_cast [f4.tu _ _ hp]
      exact nxt ⟨{ d.s with left := d.s.left - 1 }, d.held, d.at_ + 1⟩ H4 _ (by simp only [qrow, if_neg hneg]) SL4 S4 f4'
  by_cases hleave : ∃ x, r = .leave x
  · obtain ⟨x, rfl⟩ := hleave
    obtain ⟨p, vx, rfl, hp, tx⟩ := tp2 ty
    push_cast [hp]
    refine st_seq ?_
    push_cast [hp, hso, sl_leave]
    exact lvs x H3 vx (.ref p) tx fr rfl SL3 S3 f3
  obtain ⟨e16, e22⟩ := els hturn (fun x e => hleave ⟨x, e⟩)
  obtain ⟨p, ys, rfl, hp⟩ := tp_qr ty
  push_cast [hp, e16, e22, hso, sl_fails]
  refine ⟨so, o, hd, _, r, d, rfl, SL3, ty, fr, fun H4 f4 => ?_⟩
  have SL4 := SL3.keep f4 (by simp) (by simp)
  have S4 := S3.keep f4 (fun _ _ z => by cases z)
  have f4' : Fr [o, na, sk, sd] H H4 := f3.trans f4.sub0
  have hp4 := f4.tu _ _ hp
  obtain ⟨dxs4, hso4⟩ := SL4.ins
  have ty4 := ty.tups f4.tu
  cases hf : failsR d.held r with
  | true =>
    have hx : ∃ x vx y1 y2, qrow r d = .fall d.at_ (qleave x d.s d.held) ∧ x.fit d.held ∧ Tp H4 x.d vx ∧ H4 p = some (.tup [.str r.wx, y1, y2, vx]) := by
      cases r with
      | is s' kd x =>
        obtain ⟨p', x1, y1, z1, e, hp', hx, hy, hz⟩ := tp4 ty4
        cases e
        simp only [failsR, Bool.not_eq_true', decide_eq_false_iff_not] at hf
        exact ⟨x, z1, _, _, by simp only [qrow, if_neg hf], fr.2, hz, hp'⟩
      | so s' kd x =>
        obtain ⟨p', x1, y1, z1, e, hp', hx, hy, hz⟩ := tp4 ty4
        cases e
        simp only [failsR, Bool.not_eq_true', decide_eq_false_iff_not] at hf
        exact ⟨x, z1, _, _, by simp only [qrow, if_neg hf], fr.2, hz, hp'⟩
      | _ => cases hf
    obtain ⟨x, vx, y1, y2, hq, fx, tx, hp5⟩ := hx
    push_cast
    refine st_seq ?_
    push_cast [hp5, hso4, sl_leave, atI3]
    exact lvs x H4 vx (.ref p) tx fx hq SL4 S4 f4'
  | false =>
    push_cast [hp4]
    try refine ⟨(by simp only [List.length_cons, List.length_nil]; decide), ?_⟩
    intro q H5 A5
    refine ⟨_, A5.at_, rfl, ?_⟩
    have hp5 := A5.tu _ _ hp4
    have SL5 := SL4.keep (A5.fr (S := [])) (by simp) (by simp)
    have S5 := S4.keep (A5.fr (S := [])) (fun _ _ z => by cases z)
    have f5' : Fr [o, na, sk, sd] H H5 := f4'.trans A5.fr
    obtain ⟨dxs5, hso5⟩ := SL5.ins
    by_cases wr : worksR r
    · have hin : inV (V.str r.wx) [V.str (wd 18), V.str (wd 19), V.str (wd 21)] = false := by
        have e18 := wx_18 r (by rintro _ _ _ rfl; exact wr)
        have e19 := wx_19 r (by rintro _ _ _ rfl; exact wr)
        have e21 := wx_21 r (by rintro rfl; exact wr)
        simp [inV_cons, eqV_str, e18, e19, e21, eq_comm (a := wd 18), eq_comm (a := wd 19), eq_comm (a := wd 21)]
        rfl
      obtain ⟨d', hq, hat⟩ := works_on wr fr
      rw [if_pos hin]
      refine ⟨_, _, hso5, sl_work, so, o, hd, na, sk, sd, _, r, d, d', rfl, SL5, S5, ty4.tups A5.tu, fr, ok, hok, hl, sl, nhn, wr, hq, fun H6 SL6 S6 f6 => ?_⟩
      refine st_seq ?_
      push_cast
      have e21 := wx_21 r (by rintro rfl; exact wr)
      push_cast [f6.tu _ _ hp5, e21]
      have f6' : Fr [o, na, sk, sd] H H6 := by
        have f7 : Fr (hd :: [o, na, sk, sd]) H H6 := (f5'.mono (by simp +contextual)).trans (f6.mono (by simp +contextual))
        exact f7.drop nhd0
      have := nxt d' H6 (.ref p) hq SL6 S6 f6'
      rw [hat] at this
      exact this
    · have hin : inV (V.str r.wx) [V.str (wd 18), V.str (wd 19), V.str (wd 21)] = true := by
        cases r with
        | is s' k' x => simp [inV_cons, eqV_str, Qr.wx]
        | so s' k' x => simp [inV_cons, eqV_str, Qr.wx]
        | again => simp [inV_cons, eqV_str, Qr.wx]
        | turn => exact absurd rfl hturn
        | leave x => exact absurd ⟨x, rfl⟩ hleave
        | _ => exact absurd trivial wr
      rw [if_neg (by rw [hin]; decide)]
      refine st_seq ?_
      push_cast
      by_cases hag : r = .again
      · subst hag
        simp only [Qr.wx] at hp5
        push_cast [hp5]
        exact nxt ⟨d.s, d.held, 0⟩ H5 (.ref p) rfl SL5 S5 f5'
      · have e21 := wx_21 r hag
        push_cast [hp5, e21]
        refine nxt ⟨d.s, d.held, d.at_ + 1⟩ H5 (.ref p) ?_ SL5 S5 f5'
        cases r with
        | is s' k' x =>
          simp only [failsR, Bool.not_eq_false', decide_eq_true_eq] at hf
          simp only [qrow, if_pos hf]
        | so s' k' x =>
          simp only [failsR, Bool.not_eq_false', decide_eq_true_eq] at hf
          simp only [qrow, if_pos hf]
        | again => exact absurd rfl hag
        | turn => exact absurd rfl hturn
        | leave x => exact absurd ⟨x, rfl⟩ hleave
        | _ => exact absurd trivial wr

/-- _law_step from 3 -/
def t_L_step_3 (K : PySem.W.Frag) : TS :=
  (tSeq (tIfS (tTest (tOp (rInT false) (tVar 3) (xTup (tCons (tC (.str (wd 0))) (tCons (tC (.str (wd 1))) tNil))))) (xPutS (tVar 1) (tC (.str (wd 32))) (tOp rCt (tOp rGetS (tVar 1) (tC (.str (wd 32)))) (xLst (tCons (tOp rXT (tVar 2) (tC (.int 1))) tNil)))) (tIfS (tTest (tOp rEq (tVar 3) (tC (.str (wd 2))))) (xPutS (tVar 1) (tC (.str (wd 32))) (tOp rCt (tOp rGetS (tVar 1) (tC (.str (wd 32)))) (xLst (tCons (xGet2S (tOp rGetS (tVar 1) (tC (.str (wd 31)))) (tOp rXT (tVar 2) (tC (.int 1))) (tC (.int 0))) tNil)))) (tIfS (tTest (tOp rEq (tVar 3) (tC (.str (wd 11))))) (tSeq (xPutS (tVar 1) (tC (.str (wd 33))) (tOp (rI0 fun i j => .int (i - j)) (tOp rGetS (tVar 1) (tC (.str (wd 33)))) (tC (.int 1))))
    (tIfS (tTest (tOp (rI0 fun i j => .bl (decide (i < j))) (tOp rGetS (tVar 1) (tC (.str (wd 33)))) (tC (.int 0)))) (tSeq (xPutS (tVar 1) (tC (.str (wd 35))) (xTup (tCons (tC (.str (wd 27))) tNil)))
    tRetN) tNext)) (tIfS (tTest (tOp rEq (tVar 3) (tC (.str (wd 12))))) (tSeq (xPutS (tVar 1) (tC (.str (wd 35))) (xTup (tCons (tC (.str (wd 26))) tNil)))
    tRetN) (tIfS (tTest (tOp rEq (tVar 3) (tC (.str (wd 10))))) (tAsg (tOp rXT (tVar 2) (tC (.int 1))) (gName 4)) (tIfS (tTest (tOp (rInT false) (tVar 3) (xTup (tCons (tC (.str (wd 7))) (tCons (tC (.str (wd 8))) (tCons (tC (.str (wd 9))) tNil)))))) (tSeq (tAsg (tOp rXL (tOp rGetS (tVar 1) (tC (.str (wd 32)))) (tUn (rU fun i => .int (-i)) (tC (.int 1)))) (gName 5))
    (tSeq (xPutS (tVar 1) (tC (.str (wd 32))) (tSl rSL (tOp rGetS (tVar 1) (tC (.str (wd 32)))) tNoPart (tPart (tUn (rU fun i => .int (-i)) (tC (.int 1))))))
    (tIfS (tTest (tOp rEq (tVar 3) (tC (.str (wd 7))))) (xPutS (tVar 1) (tC (.str (wd 34))) (tOp rCt (tOp rGetS (tVar 1) (tC (.str (wd 34)))) (xLst (tCons (tVar 5) tNil)))) (tIfS (tTest (tOp rEq (tVar 3) (tC (.str (wd 8))))) (tSeq (xPutS (tVar 1) (tC (.str (wd 31))) (tCB rDctD (tCons (tOp rGetS (tVar 1) (tC (.str (wd 31)))) tNil)))
    (xPutS (tOp rGetS (tVar 1) (tC (.str (wd 31)))) (tOp rXT (tVar 2) (tC (.int 1))) (tVar 5))) (tIfS (tNot (tB (tCall sp_L_is_so [] E0 (tCons (tVar 5) tNil)))) (tAsg (tOp rXT (tVar 2) (tC (.int 1))) (gName 4)) tNext))))) (tSeq (tAsg (tCall sp_L_worked [] E0 (tCons (tVar 3) (tCons (tOp rXL (tOp rGetS (tVar 1) (tC (.str (wd 32)))) (tUn (rU fun i => .int (-i)) (tC (.int 2)))) (tCons (tOp rXL (tOp rGetS (tVar 1) (tC (.str (wd 32)))) (tUn (rU fun i => .int (-i)) (tC (.int 1)))) tNil)))) (gName 6))
    (tSeq (tIfS (tTest (tOp rIsN (tVar 6) (tC .non))) (tSeq (xPutS (tVar 1) (tC (.str (wd 35))) (xTup (tCons (tC (.str (wd 28))) (tCons (tOp rGetS (tVar 1) (tC (.str (wd 30)))) tNil))))
    tRetN) tNext)
    (xPutS (tVar 1) (tC (.str (wd 32))) (tOp rCt (tSl rSL (tOp rGetS (tVar 1) (tC (.str (wd 32)))) tNoPart (tPart (tUn (rU fun i => .int (-i)) (tC (.int 2))))) (xLst (tCons (tVar 6) tNil))))))))))))
    (xPutS (tVar 1) (tC (.str (wd 30))) (tVar 4)))

/-- _law_step from 2 -/
def t_L_step_2 (K : PySem.W.Frag) : TS :=
  tSeq (tAsg (tOp (rI0 fun i j => .int (i + j)) (tOp rGetS (tVar 1) (tC (.str (wd 30)))) (tC (.int 1))) (gName 4)) (t_L_step_3 K)

/-- _law_step from 1 -/
def t_L_step_1 (K : PySem.W.Frag) : TS :=
  tSeq (tAsg (tOp rXT (tVar 2) (tC (.int 0))) (gName 3)) (t_L_step_2 K)

/-- _law_step -/
def t_L_step (K : PySem.W.Frag) : TS :=
  tSeq (tAsg (tOp rXT (tVar 0) (tOp rGetS (tVar 1) (tC (.str (wd 30))))) (gName 2)) (t_L_step_1 K)

theorem own1 {H : Hp} {d nb hb sb x : Addr} (h : H x = none) : Own H [d, nb, hb, sb] [d, nb, x, sb] := fun y hy => by
  simp only [List.mem_cons, List.not_mem_nil, or_false] at hy ⊢
  rcases hy with rfl | rfl | rfl | rfl <;> simp [h]
theorem own2 {H : Hp} {d nb hb sb x y : Addr} (h : H x = none) (h' : H y = none) : Own H [d, nb, hb, sb] [d, nb, x, y] := fun z hz => by
  simp only [List.mem_cons, List.not_mem_nil, or_false] at hz ⊢
  rcases hz with rfl | rfl | rfl | rfl <;> simp [h, h']
theorem own3 {H : Hp} {d nb hb sb x y : Addr} (h : H x = none) (h' : H y = none) : Own H [d, nb, hb, sb] [d, y, x, sb] := fun z hz => by
  simp only [List.mem_cons, List.not_mem_nil, or_false] at hz ⊢
  rcases hz with rfl | rfl | rfl | rfl <;> simp [h, h']
theorem rd_L_step {K : PySem.W.Frag} {vs : List V} {H : Hp} {Q : VK} {E : XK} (h : sp_L_step vs H Q E) : t_L_step K { nx := fun _ H' => Q .non H', rt := Q } (start ["_", "_", "_", "_", "_", "_", "_"] vs) H := by
  obtain ⟨v, code, d, nb, hb, sb, s, rfl, hv, L, ok, fit, l1, l2, k⟩ := h
  show t_L_step K _ [some v, some (.ref d), none, none, none, none, none] H
  obtain ⟨⟨la, hd, hla⟩, hnb, hhb, hsb, ne⟩ := L
  obtain ⟨ca, rows, r, y, rfl, hca, hix, hr, ty, hn, hok⟩ := fit.at_ hv
  rw [step_at hr] at k
  unfold stepR at k
  have nl := ok.nm.len
  cases r with
  | num n =>
    obtain ⟨ra, rfl, hra⟩ := tp2i ty
    unfold t_L_step; refine st_seq ?_
    push_cast [hca, hd, ls_place, hix]
    unfold t_L_step_1; refine st_seq ?_
    push_cast [hra]
    unfold t_L_step_2; refine st_seq ?_
    push_cast [hd, ls_place]
    unfold t_L_step_3; refine st_seq ?_
    push_cast
    refine ⟨(by simp only [List.length_cons, List.length_nil]; decide), fun p H1 A1 => ?_⟩
    replace hd := A1.k hd; replace hnb := A1.k hnb; replace hhb := A1.k hhb; replace hsb := A1.k hsb; replace hra := A1.k hra
    replace hla := hla.tups A1.tu
    push_cast [A1.at_, hd, ls_half, hra]
    refine ⟨(by simp only [List.length_cons, List.length_nil]; decide), fun q H2 A2 => ?_⟩
    replace hd := A2.k hd; replace hnb := A2.k hnb; replace hhb := A2.k hhb; replace hsb := A2.k hsb
    push_cast [hhb, A2.at_]
    refine ⟨big (by simp [vls]; omega), fun q3 H3 A3 => ?_⟩
    have nq : H q3 = none := ((A1.fr (S := [])).al A2).free A3.new (by simp)
    replace hd := A3.k hd; replace hnb := A3.k hnb; replace hhb := A3.k hhb; replace hsb := A3.k hsb
    have hq := A3.at_
    push_cast [hd]
    refine ⟨ls_len, fun H4 M4 => ?_⟩
    replace hnb := M4.k hnb ne
    replace hhb := M4.k hhb (ne_of hhb hd (by simp)); replace hsb := M4.k hsb (ne_of hsb hd (by simp)); replace hq := M4.k hq (ne_of hq hd (by simp)); replace hd := M4.at_
    rw [lp_half] at hd
    push_cast [hd]
    refine ⟨ls_len, fun H5 M5 => ?_⟩
    replace hnb := M5.k hnb ne
    replace hhb := M5.k hhb (ne_of hhb hd (by simp)); replace hsb := M5.k hsb (ne_of hsb hd (by simp)); replace hq := M5.k hq (ne_of hq hd (by simp)); replace hd := M5.at_
    rw [lp_place1] at hd
    refine k H5 nb q3 sb ⟨⟨la, hd, (((hla.tups A2.tu).tups A3.tu).tups M4.tu).tups M5.tu⟩, hnb, by rw [hq]; simp [vls, Vl.v], hsb, ne⟩ (own1 nq) ((((A1.fr.al A2).al A3).mu M4 (by simp)).mu M5 (by simp))
  | text n =>
    obtain ⟨ra, rfl, hra⟩ := tp2s ty
    unfold t_L_step; refine st_seq ?_
    push_cast [hca, hd, ls_place, hix]
    unfold t_L_step_1; refine st_seq ?_
    push_cast [hra]
    unfold t_L_step_2; refine st_seq ?_
    push_cast [hd, ls_place]
    unfold t_L_step_3; refine st_seq ?_
    push_cast
    refine ⟨(by simp only [List.length_cons, List.length_nil]; decide), fun p H1 A1 => ?_⟩
    replace hd := A1.k hd; replace hnb := A1.k hnb; replace hhb := A1.k hhb; replace hsb := A1.k hsb; replace hra := A1.k hra
    replace hla := hla.tups A1.tu
    push_cast [A1.at_, hd, ls_half, hra]
    refine ⟨(by simp only [List.length_cons, List.length_nil]; decide), fun q H2 A2 => ?_⟩
    replace hd := A2.k hd; replace hnb := A2.k hnb; replace hhb := A2.k hhb; replace hsb := A2.k hsb
    push_cast [hhb, A2.at_]
    refine ⟨big (by simp [vls]; omega), fun q3 H3 A3 => ?_⟩
    have nq : H q3 = none := ((A1.fr (S := [])).al A2).free A3.new (by simp)
    replace hd := A3.k hd; replace hnb := A3.k hnb; replace hhb := A3.k hhb; replace hsb := A3.k hsb
    have hq := A3.at_
    push_cast [hd]
    refine ⟨ls_len, fun H4 M4 => ?_⟩
    replace hnb := M4.k hnb ne
    replace hhb := M4.k hhb (ne_of hhb hd (by simp)); replace hsb := M4.k hsb (ne_of hsb hd (by simp)); replace hq := M4.k hq (ne_of hq hd (by simp)); replace hd := M4.at_
    rw [lp_half] at hd
    push_cast [hd]
    refine ⟨ls_len, fun H5 M5 => ?_⟩
    replace hnb := M5.k hnb ne
    replace hhb := M5.k hhb (ne_of hhb hd (by simp)); replace hsb := M5.k hsb (ne_of hsb hd (by simp)); replace hq := M5.k hq (ne_of hq hd (by simp)); replace hd := M5.at_
    rw [lp_place1] at hd
    refine k H5 nb q3 sb ⟨⟨la, hd, (((hla.tups A2.tu).tups A3.tu).tups M4.tu).tups M5.tu⟩, hnb, by rw [hq]; simp [vls, Vl.v], hsb, ne⟩ (own1 nq) ((((A1.fr.al A2).al A3).mu M4 (by simp)).mu M5 (by simp))
  | name x =>
    obtain ⟨ra, rfl, hra⟩ := tp2s ty
    unfold t_L_step; refine st_seq ?_
    push_cast [hca, hd, ls_place, hix]
    unfold t_L_step_1; refine st_seq ?_
    push_cast [hra]
    unfold t_L_step_2; refine st_seq ?_
    push_cast [hd, ls_place]
    unfold t_L_step_3; refine st_seq ?_
    push_cast
    refine ⟨(by simp only [List.length_cons, List.length_nil]; decide), fun p H1 A1 => ?_⟩
    replace hd := A1.k hd; replace hnb := A1.k hnb; replace hhb := A1.k hhb; replace hsb := A1.k hsb; replace hra := A1.k hra
    replace hla := hla.tups A1.tu
    push_cast [A1.at_, hd, ls_half, ls_names, hra, hnb, valV_kvs, getD_v]
    refine ⟨(by simp only [List.length_cons, List.length_nil]; decide), fun q H2 A2 => ?_⟩
    replace hd := A2.k hd; replace hnb := A2.k hnb; replace hhb := A2.k hhb; replace hsb := A2.k hsb
    push_cast [hhb, A2.at_]
    refine ⟨big (by simp [vls]; omega), fun q3 H3 A3 => ?_⟩
    have nq : H q3 = none := ((A1.fr (S := [])).al A2).free A3.new (by simp)
    replace hd := A3.k hd; replace hnb := A3.k hnb; replace hhb := A3.k hhb; replace hsb := A3.k hsb
    have hq := A3.at_
    push_cast [hd]
    refine ⟨ls_len, fun H4 M4 => ?_⟩
    replace hnb := M4.k hnb ne
    replace hhb := M4.k hhb (ne_of hhb hd (by simp)); replace hsb := M4.k hsb (ne_of hsb hd (by simp)); replace hq := M4.k hq (ne_of hq hd (by simp)); replace hd := M4.at_
    rw [lp_half] at hd
    push_cast [hd]
    refine ⟨ls_len, fun H5 M5 => ?_⟩
    replace hnb := M5.k hnb ne
    replace hhb := M5.k hhb (ne_of hhb hd (by simp)); replace hsb := M5.k hsb (ne_of hsb hd (by simp)); replace hq := M5.k hq (ne_of hq hd (by simp)); replace hd := M5.at_
    rw [lp_place1] at hd
    refine k H5 nb q3 sb ⟨⟨la, hd, (((hla.tups A2.tu).tups A3.tu).tups M4.tu).tups M5.tu⟩, hnb, by rw [hq]; simp [vls], hsb, ne⟩ (own1 nq) ((((A1.fr.al A2).al A3).mu M4 (by simp)).mu M5 (by simp))
  | op g =>
    obtain ⟨ra, rfl, hra⟩ := tp1 ty
    match hst : s.st, hn with
    | y :: x :: q, _ =>
      simp only [hst] at k
      have hx : x.ok := ok.st x (by rw [hst]; simp)
      have hy : y.ok := ok.st y (by rw [hst]; simp)
      rw [hst] at hhb
      unfold vls at hhb
      have S0 : (g.s = wd 0) = False ∧ (g.s = wd 1) = False ∧ (g.s = wd 2) = False ∧ (g.s = wd 7) = False ∧ (g.s = wd 8) = False ∧ (g.s = wd 9) = False ∧ (g.s = wd 10) = False ∧ (g.s = wd 11) = False ∧ (g.s = wd 12) = False := by
        have hg : 3 ≤ g.ix ∧ g.ix ≤ 6 := by cases g <;> decide
        simp only [sg_eq g _ (show 0 < 42 by decide), sg_eq g _ (show 1 < 42 by decide), sg_eq g _ (show 2 < 42 by decide), sg_eq g _ (show 7 < 42 by decide), sg_eq g _ (show 8 < 42 by decide), sg_eq g _ (show 9 < 42 by decide), sg_eq g _ (show 10 < 42 by decide), sg_eq g _ (show 11 < 42 by decide), sg_eq g _ (show 12 < 42 by decide)]
        refine ⟨?_, ?_, ?_, ?_, ?_, ?_, ?_, ?_, ?_⟩ <;> simp only [eq_iff_iff, iff_false] <;> omega
      obtain ⟨n0, n1, n2, n7, n8, n9, n10, n11, n12⟩ := S0
      unfold t_L_step; refine st_seq ?_
      push_cast [hca, hd, ls_place, hix]
      unfold t_L_step_1; refine st_seq ?_
      push_cast [hra]
      unfold t_L_step_2; refine st_seq ?_
      push_cast [hd, ls_place]
      unfold t_L_step_3; refine st_seq ?_
      push_cast
      refine ⟨(by simp only [List.length_cons, List.length_nil]; decide), fun p H1 A1 => ?_⟩
      replace hd := A1.k hd; replace hnb := A1.k hnb; replace hhb := A1.k hhb; replace hsb := A1.k hsb; replace hra := A1.k hra
      replace hla := hla.tups A1.tu
      push_cast [A1.at_, sg_ne g (i := 0) (by decide), sg_ne g (i := 1) (by decide), n2, n10, n11, n12]
      refine ⟨(by simp only [List.length_cons, List.length_nil]; decide), fun p2 H2 A2 => ?_⟩
      replace hd := A2.k hd; replace hnb := A2.k hnb; replace hhb := A2.k hhb; replace hsb := A2.k hsb; replace hra := A2.k hra
      replace hla := hla.tups A2.tu
      push_cast [A2.at_, sg_ne g (i := 7) (by decide), sg_ne g (i := 8) (by decide), sg_ne g (i := 9) (by decide)]
      refine st_seq ?_
      push_cast [hd, ls_half, hhb, Int.reduceNeg, atI_last1, atI_last2]
      refine ⟨g, x, y, rfl, hx, hy, fun H3 f3 => ?_⟩
      have keep : ∀ a u, H2 a = some u → H3 a = some u := fun a u h => f3.keep a u h (by simp)
      replace hd := keep _ _ hd
      replace hnb := keep _ _ hnb
      replace hhb := keep _ _ hhb
      replace hsb := keep _ _ hsb
      replace hla := hla.tups f3.tu
      have F3 : Fr [] H H3 := (A1.fr.al A2).trans f3
      refine st_seq ?_
      cases e : wk g x y with
      | none =>
        simp only [e] at k
        push_cast [ov]
        refine st_seq ?_
        push_cast [hd, ls_place]
        refine ⟨(by simp only [List.length_cons, List.length_nil]; decide), fun p4 H4 A4 => ?_⟩
        replace hd := A4.k hd; replace hnb := A4.k hnb; replace hhb := A4.k hhb; replace hsb := A4.k hsb
        have hp := A4.at_
        push_cast [hd]
        refine ⟨ls_len, fun H5 M5 => ?_⟩
        replace hnb := M5.k hnb ne
        replace hhb := M5.k hhb (ne_of hhb hd (by simp)); replace hsb := M5.k hsb (ne_of hsb hd (by simp)); replace hp := M5.k hp (ne_of hp hd (by simp)); replace hd := M5.at_
        rw [lp_last] at hd
        refine k H5 nb hb sb ⟨⟨_, hd, .tup hp (.cons (.str _) (.cons (.int _) .nil))⟩, hnb, hhb, hsb, ne⟩ (.refl _ _) (((F3.sub0).al A4).mu M5 (by simp))
      | some z =>
        simp only [e] at k
        have nz : (z.v = V.non) = False := by cases z <;> simp [Vl.v]
        push_cast [ov, nz, hd, ls_half, hhb, Int.reduceNeg, cut_last2]
        intro p4 H4 A4
        refine ⟨(by simp only [List.length_cons, List.length_nil]; decide), fun p5 H5 A5 => ?_⟩
        replace hd := A4.k hd; replace hnb := A4.k hnb; replace hhb := A4.k hhb; replace hsb := A4.k hsb
        have hp := A4.at_
        replace hd := A5.k hd; replace hnb := A5.k hnb; replace hhb := A5.k hhb; replace hsb := A5.k hsb; replace hp := A5.k hp
        push_cast [hp, A5.at_]
        refine ⟨big (by simp only [List.length_map, List.length_reverse, List.length_cons, List.length_nil]; rw [hst] at l1; simp only [List.length_cons] at l1; omega), fun q6 H6 A6 => ?_⟩
        have nq : H q6 = none := ((F3.al A4).al A5).free A6.new (by simp)
        replace hd := A6.k hd; replace hnb := A6.k hnb; replace hhb := A6.k hhb; replace hsb := A6.k hsb
        have hq := A6.at_
        push_cast [hd]
        refine ⟨ls_len, fun H7 M7 => ?_⟩
        replace hnb := M7.k hnb ne
        replace hsb := M7.k hsb (ne_of hsb hd (by simp)); replace hq := M7.k hq (ne_of hq hd (by simp)); replace hd := M7.at_
        rw [lp_half] at hd
        push_cast [hd]
        refine ⟨ls_len, fun H8 M8 => ?_⟩
        replace hnb := M8.k hnb ne
        replace hsb := M8.k hsb (ne_of hsb hd (by simp)); replace hq := M8.k hq (ne_of hq hd (by simp)); replace hd := M8.at_
        rw [lp_place1] at hd
        rw [push_last] at hq
        refine k H8 nb q6 sb ⟨⟨la, hd, ((((hla.tups A4.tu).tups A5.tu).tups A6.tu).tups M7.tu).tups M8.tu⟩, hnb, hq, hsb, ne⟩ (own1 nq) ((((((F3.sub0).al A4).al A5).al A6).mu M7 (by simp)).mu M8 (by simp))
  | say =>
    obtain ⟨ra, rfl, hra⟩ := tp1 ty
    match hst : s.st, hn with
    | y :: q, _ =>
      simp only [hst] at k
      rw [hst] at hhb
      unfold vls at hhb
      unfold t_L_step; refine st_seq ?_
      push_cast [hca, hd, ls_place, hix]
      unfold t_L_step_1; refine st_seq ?_
      push_cast [hra]
      unfold t_L_step_2; refine st_seq ?_
      push_cast [hd, ls_place]
      unfold t_L_step_3; refine st_seq ?_
      push_cast
      refine ⟨(by simp only [List.length_cons, List.length_nil]; decide), fun p H1 A1 => ?_⟩
      replace hd := A1.k hd; replace hnb := A1.k hnb; replace hhb := A1.k hhb; replace hsb := A1.k hsb; replace hra := A1.k hra
      replace hla := hla.tups A1.tu
      push_cast [A1.at_]
      refine ⟨(by simp only [List.length_cons, List.length_nil]; decide), fun p2 H2 A2 => ?_⟩
      replace hd := A2.k hd; replace hnb := A2.k hnb; replace hhb := A2.k hhb; replace hsb := A2.k hsb; replace hra := A2.k hra
      replace hla := hla.tups A2.tu
      push_cast [A2.at_]
      refine st_seq ?_
      push_cast [hd, ls_half, hhb, Int.reduceNeg, atI_last1]
      refine st_seq ?_
      push_cast [hd, ls_half, hhb, Int.reduceNeg, cut_last1]
      intro p3 H3 A3
      have n3 : H p3 = none := ((A1.fr (S := [])).al A2).free A3.new (by simp)
      replace hd := A3.k hd; replace hnb := A3.k hnb; replace hhb := A3.k hhb; replace hsb := A3.k hsb
      have hp := A3.at_
      push_cast [hd]
      refine ⟨ls_len, fun H4 M4 => ?_⟩
      replace hnb := M4.k hnb ne
      replace hsb := M4.k hsb (ne_of hsb hd (by simp)); replace hp := M4.k hp (ne_of hp hd (by simp)); replace hd := M4.at_
      rw [lp_half] at hd
      push_cast [hd, ls_said]
      refine ⟨(by simp only [List.length_cons, List.length_nil]; decide), fun p5 H5 A5 => ?_⟩
      replace hd := A5.k hd; replace hnb := A5.k hnb; replace hsb := A5.k hsb; replace hp := A5.k hp
      push_cast [hsb, A5.at_]
      refine ⟨big (by simp [vls]; omega), fun p6 H6 A6 => ?_⟩
      have f4 : Fr [d] H H4 := (((A1.fr).al A2).al A3).mu M4 (by simp)
      have n6 : H p6 = none := (f4.al A5).free A6.new (by intro z; rw [List.mem_singleton.mp z] at A6; exact ne_of_none hd A6.new rfl)
      replace hd := A6.k hd; replace hnb := A6.k hnb; replace hsb := A6.k hsb; replace hp := A6.k hp
      have hq := A6.at_
      push_cast [hd]
      refine ⟨ls_len, fun H7 M7 => ?_⟩
      replace hnb := M7.k hnb ne
      replace hsb := M7.k hsb (ne_of hsb hd (by simp)); replace hp := M7.k hp (ne_of hp hd (by simp)); replace hq := M7.k hq (ne_of hq hd (by simp)); replace hd := M7.at_
      rw [lp_said] at hd
      push_cast [hd]
      refine ⟨ls_len, fun H8 M8 => ?_⟩
      replace hnb := M8.k hnb ne
      replace hsb := M8.k hsb (ne_of hsb hd (by simp)); replace hp := M8.k hp (ne_of hp hd (by simp)); replace hq := M8.k hq (ne_of hq hd (by simp)); replace hd := M8.at_
      rw [lp_place1] at hd
      rw [vls_snoc] at hq
      refine k H8 nb p3 p6 ⟨⟨la, hd, (((((hla.tups A3.tu).tups M4.tu).tups A5.tu).tups A6.tu).tups M7.tu).tups M8.tu⟩, hnb, hp, hq, ne⟩ (own2 n3 n6) ((((f4.al A5).al A6).mu M7 (by simp)).mu M8 (by simp))
  | set x =>
    obtain ⟨ra, rfl, hra⟩ := tp2s ty
    match hst : s.st, hn with
    | y :: q, _ =>
      simp only [hst] at k
      rw [hst] at hhb
      unfold vls at hhb
      unfold t_L_step; refine st_seq ?_
      push_cast [hca, hd, ls_place, hix]
      unfold t_L_step_1; refine st_seq ?_
      push_cast [hra]
      unfold t_L_step_2; refine st_seq ?_
      push_cast [hd, ls_place]
      unfold t_L_step_3; refine st_seq ?_
      push_cast
      refine ⟨(by simp only [List.length_cons, List.length_nil]; decide), fun p H1 A1 => ?_⟩
      replace hd := A1.k hd; replace hnb := A1.k hnb; replace hhb := A1.k hhb; replace hsb := A1.k hsb; replace hra := A1.k hra
      replace hla := hla.tups A1.tu
      push_cast [A1.at_]
      refine ⟨(by simp only [List.length_cons, List.length_nil]; decide), fun p2 H2 A2 => ?_⟩
      replace hd := A2.k hd; replace hnb := A2.k hnb; replace hhb := A2.k hhb; replace hsb := A2.k hsb; replace hra := A2.k hra
      replace hla := hla.tups A2.tu
      push_cast [A2.at_]
      refine st_seq ?_
      push_cast [hd, ls_half, hhb, Int.reduceNeg, atI_last1]
      refine st_seq ?_
      push_cast [hd, ls_half, hhb, Int.reduceNeg, cut_last1]
      intro p3 H3 A3
      have n3 : H p3 = none := ((A1.fr (S := [])).al A2).free A3.new (by simp)
      replace hd := A3.k hd; replace hnb := A3.k hnb; replace hhb := A3.k hhb; replace hsb := A3.k hsb; replace hra := A3.k hra
      have hp := A3.at_
      push_cast [hd]
      refine ⟨ls_len, fun H4 M4 => ?_⟩
      replace hnb := M4.k hnb ne
      replace hsb := M4.k hsb (ne_of hsb hd (by simp)); replace hp := M4.k hp (ne_of hp hd (by simp)); replace hra := M4.k hra (ne_of hra hd (by simp)); replace hd := M4.at_
      rw [lp_half] at hd
      refine st_seq ?_
      push_cast [hd, ls_names, hnb]
      intro p5 H5 A5
      have f4 : Fr [d] H H4 := (((A1.fr).al A2).al A3).mu M4 (by simp)
      have nd : d ≠ p5 := ne_of_none hd A5.new
      have n5 : H p5 = none := f4.free A5.new (by intro z; exact nd (List.mem_singleton.mp z).symm)
      replace hd := A5.k hd; replace hnb := A5.k hnb; replace hsb := A5.k hsb; replace hp := A5.k hp; replace hra := A5.k hra
      have hq := A5.at_
      push_cast [hd]
      refine ⟨ls_len, fun H6 M6 => ?_⟩
      replace hq := M6.k hq nd.symm
      replace hnb := M6.k hnb ne
      replace hsb := M6.k hsb (ne_of hsb hd (by simp)); replace hp := M6.k hp (ne_of hp hd (by simp)); replace hra := M6.k hra (ne_of hra hd (by simp)); replace hd := M6.at_
      rw [lp_names] at hd
      push_cast [hd, ls_names, hq, hra]
      refine ⟨bigL (by rw [kvs_length]; omega), fun H7 M7 => ?_⟩
      replace hd := M7.k hd nd
      replace hsb := M7.k hsb (ne_of hsb hq (by simp)); replace hp := M7.k hp (ne_of hp hq (by simp)); replace hra := M7.k hra (ne_of hra hq (by simp)); replace hq := M7.at_
      rw [putK_kvs] at hq
      push_cast [hd]
      refine ⟨ls_len, fun H8 M8 => ?_⟩
      replace hq := M8.k hq nd.symm
      replace hsb := M8.k hsb (ne_of hsb hd (by simp)); replace hp := M8.k hp (ne_of hp hd (by simp)); replace hd := M8.at_
      rw [lp_place1] at hd
      refine k H8 p5 p3 sb ⟨⟨la, hd, (((((hla.tups A3.tu).tups M4.tu).tups A5.tu).tups M6.tu).tups M7.tu).tups M8.tu⟩, hq, hp, hsb, nd.symm⟩ (own3 n3 n5) ((((f4.al A5).mu M6 (by simp)).muN M7 n5).mu M8 (by simp))
  | «unless» q =>
    obtain ⟨ra, rfl, hra⟩ := tp2i ty
    match hst : s.st, hn with
    | y :: z, _ =>
      simp only [hst] at k
      rw [hst] at hhb
      unfold vls at hhb
      unfold t_L_step; refine st_seq ?_
      push_cast [hca, hd, ls_place, hix]
      unfold t_L_step_1; refine st_seq ?_
      push_cast [hra]
      unfold t_L_step_2; refine st_seq ?_
      push_cast [hd, ls_place]
      unfold t_L_step_3; refine st_seq ?_
      push_cast
      refine ⟨(by simp only [List.length_cons, List.length_nil]; decide), fun p H1 A1 => ?_⟩
      replace hd := A1.k hd; replace hnb := A1.k hnb; replace hhb := A1.k hhb; replace hsb := A1.k hsb; replace hra := A1.k hra
      replace hla := hla.tups A1.tu
      push_cast [A1.at_]
      refine ⟨(by simp only [List.length_cons, List.length_nil]; decide), fun p2 H2 A2 => ?_⟩
      replace hd := A2.k hd; replace hnb := A2.k hnb; replace hhb := A2.k hhb; replace hsb := A2.k hsb; replace hra := A2.k hra
      replace hla := hla.tups A2.tu
      push_cast [A2.at_]
      refine st_seq ?_
      push_cast [hd, ls_half, hhb, Int.reduceNeg, atI_last1]
      refine st_seq ?_
      push_cast [hd, ls_half, hhb, Int.reduceNeg, cut_last1]
      intro p3 H3 A3
      have n3 : H p3 = none := ((A1.fr (S := [])).al A2).free A3.new (by simp)
      replace hd := A3.k hd; replace hnb := A3.k hnb; replace hhb := A3.k hhb; replace hsb := A3.k hsb; replace hra := A3.k hra
      have hp := A3.at_
      push_cast [hd]
      refine ⟨ls_len, fun H4 M4 => ?_⟩
      replace hnb := M4.k hnb ne
      replace hsb := M4.k hsb (ne_of hsb hd (by simp)); replace hp := M4.k hp (ne_of hp hd (by simp)); replace hra := M4.k hra (ne_of hra hd (by simp)); replace hd := M4.at_
      rw [lp_half] at hd
      have f4 : Fr [d] H H4 := (((A1.fr).al A2).al A3).mu M4 (by simp)
      refine ⟨y, rfl, fun H5 f5 => ?_⟩
      have keep : ∀ a u, H4 a = some u → H5 a = some u := fun a u h => f5.keep a u h (by simp)
      replace hd := keep _ _ hd
      replace hnb := keep _ _ hnb
      replace hp := keep _ _ hp
      replace hsb := keep _ _ hsb
      replace hra := keep _ _ hra
      replace hla := ((hla.tups A3.tu).tups M4.tu).tups f5.tu
      cases hy : y.so with
      | false =>
        simp only [hy] at k
        push_cast [hra, hd]
        refine ⟨ls_len, fun H6 M6 => ?_⟩
        replace hnb := M6.k hnb ne
        replace hsb := M6.k hsb (ne_of hsb hd (by simp)); replace hp := M6.k hp (ne_of hp hd (by simp)); replace hd := M6.at_
        rw [lp_place] at hd
        refine k H6 nb p3 sb ⟨⟨la, hd, hla.tups M6.tu⟩, hnb, hp, hsb, ne⟩ (own1 n3) ((f4.trans f5.sub0).mu M6 (by simp))
      | true =>
        simp only [hy] at k
        push_cast [hra, hd]
        refine ⟨ls_len, fun H6 M6 => ?_⟩
        replace hnb := M6.k hnb ne
        replace hsb := M6.k hsb (ne_of hsb hd (by simp)); replace hp := M6.k hp (ne_of hp hd (by simp)); replace hd := M6.at_
        rw [lp_place1] at hd
        refine k H6 nb p3 sb ⟨⟨la, hd, hla.tups M6.tu⟩, hnb, hp, hsb, ne⟩ (own1 n3) ((f4.trans f5.sub0).mu M6 (by simp))
  | go z =>
    obtain ⟨ra, rfl, hra⟩ := tp2i ty
    unfold t_L_step; refine st_seq ?_
    push_cast [hca, hd, ls_place, hix]
    unfold t_L_step_1; refine st_seq ?_
    push_cast [hra]
    unfold t_L_step_2; refine st_seq ?_
    push_cast [hd, ls_place]
    unfold t_L_step_3; refine st_seq ?_
    push_cast
    refine ⟨(by simp only [List.length_cons, List.length_nil]; decide), fun p H1 A1 => ?_⟩
    replace hd := A1.k hd; replace hnb := A1.k hnb; replace hhb := A1.k hhb; replace hsb := A1.k hsb; replace hra := A1.k hra
    replace hla := hla.tups A1.tu
    push_cast [A1.at_, hra, hd]
    refine ⟨ls_len, fun H4 M4 => ?_⟩
    replace hnb := M4.k hnb ne
    replace hhb := M4.k hhb (ne_of hhb hd (by simp)); replace hsb := M4.k hsb (ne_of hsb hd (by simp)); replace hd := M4.at_
    rw [lp_place] at hd
    exact k H4 nb hb sb ⟨⟨la, hd, hla.tups M4.tu⟩, hnb, hhb, hsb, ne⟩ (.refl _ _) (A1.fr.mu M4 (by simp))
  | top =>
    obtain ⟨ra, rfl, hra⟩ := tp1 ty
    unfold t_L_step; refine st_seq ?_
    push_cast [hca, hd, ls_place, hix]
    unfold t_L_step_1; refine st_seq ?_
    push_cast [hra]
    unfold t_L_step_2; refine st_seq ?_
    push_cast [hd, ls_place]
    unfold t_L_step_3; refine st_seq ?_
    push_cast
    refine ⟨(by simp only [List.length_cons, List.length_nil]; decide), fun p H1 A1 => ?_⟩
    replace hd := A1.k hd; replace hnb := A1.k hnb; replace hhb := A1.k hhb; replace hsb := A1.k hsb; replace hra := A1.k hra
    replace hla := hla.tups A1.tu
    push_cast [A1.at_]
    refine st_seq ?_
    push_cast [hd, ls_left]
    refine ⟨ls_len, fun H2 M2 => ?_⟩
    replace hnb := M2.k hnb ne
    replace hhb := M2.k hhb (ne_of hhb hd (by simp)); replace hsb := M2.k hsb (ne_of hsb hd (by simp)); replace hd := M2.at_
    replace hla := hla.tups M2.tu
    rw [lp_left] at hd
    push_cast [hd, ls_left]
    by_cases hl : s.left - 1 < 0
    · simp only [if_pos hl] at k
      refine iteT' hl ?_
      refine st_seq ?_
      push_cast
      refine ⟨(by simp only [List.length_cons, List.length_nil]; decide), fun q H3 A3 => ?_⟩
      replace hd := A3.k hd; replace hnb := A3.k hnb; replace hhb := A3.k hhb; replace hsb := A3.k hsb
      have hq := A3.at_
      push_cast [hd]
      refine ⟨ls_len, fun H4 M4 => ?_⟩
      replace hnb := M4.k hnb ne
      replace hhb := M4.k hhb (ne_of hhb hd (by simp)); replace hsb := M4.k hsb (ne_of hsb hd (by simp)); replace hq := M4.k hq (ne_of hq hd (by simp)); replace hd := M4.at_
      rw [lp_last] at hd
      exact k H4 nb hb sb ⟨⟨_, hd, .tup hq (.cons (.str _) .nil)⟩, hnb, hhb, hsb, ne⟩ (.refl _ _) (((A1.fr.mu M2 (by simp)).al A3).mu M4 (by simp))
    · simp only [if_neg hl] at k
      refine iteF' hl ?_
      refine ⟨ls_len, fun H4 M4 => ?_⟩
      replace hnb := M4.k hnb ne
      replace hhb := M4.k hhb (ne_of hhb hd (by simp)); replace hsb := M4.k hsb (ne_of hsb hd (by simp)); replace hd := M4.at_
      rw [lp_place1] at hd
      exact k H4 nb hb sb ⟨⟨la, hd, hla.tups M4.tu⟩, hnb, hhb, hsb, ne⟩ (.refl _ _) ((A1.fr.mu M2 (by simp)).mu M4 (by simp))
  | fin =>
    obtain ⟨ra, rfl, hra⟩ := tp1 ty
    unfold t_L_step; refine st_seq ?_
    push_cast [hca, hd, ls_place, hix]
    unfold t_L_step_1; refine st_seq ?_
    push_cast [hra]
    unfold t_L_step_2; refine st_seq ?_
    push_cast [hd, ls_place]
    unfold t_L_step_3; refine st_seq ?_
    push_cast
    refine ⟨(by simp only [List.length_cons, List.length_nil]; decide), fun p H1 A1 => ?_⟩
    replace hd := A1.k hd; replace hnb := A1.k hnb; replace hhb := A1.k hhb; replace hsb := A1.k hsb; replace hra := A1.k hra
    replace hla := hla.tups A1.tu
    push_cast [A1.at_]
    refine st_seq ?_
    push_cast
    refine ⟨(by simp only [List.length_cons, List.length_nil]; decide), fun q H3 A3 => ?_⟩
    replace hd := A3.k hd; replace hnb := A3.k hnb; replace hhb := A3.k hhb; replace hsb := A3.k hsb
    have hq := A3.at_
    push_cast [hd]
    refine ⟨ls_len, fun H4 M4 => ?_⟩
    replace hnb := M4.k hnb ne
    replace hhb := M4.k hhb (ne_of hhb hd (by simp)); replace hsb := M4.k hsb (ne_of hsb hd (by simp)); replace hq := M4.k hq (ne_of hq hd (by simp)); replace hd := M4.at_
    rw [lp_last] at hd
    exact k H4 nb hb sb ⟨⟨_, hd, .tup hq (.cons (.str _) .nil)⟩, hnb, hhb, hsb, ne⟩ (.refl _ _) ((A1.fr.al A3).mu M4 (by simp))

/-! quick rows do as plain rows do -/
inductive QEnds (rows : List Qr) (F O : MS → Prop) : QC → Prop
  | on {d e : QC} : QFit rows d → qstep rows d = .on e → QEnds rows F O e → QEnds rows F O d
  | fall {d : QC} {n : Nat} {s : MS} : QFit rows d → qstep rows d = .fall n s → F s → QEnds rows F O d
  | over {d : QC} {s : MS} : QFit rows d → qstep rows d = .over s → O s → QEnds rows F O d
theorem QEnds.safe {rows : List Qr} {F O : MS → Prop} {d : QC} (h : QEnds rows F O d) : Safe rows d := by
  induction h with
  | on f e _ ih =>
    intro x r
    cases r with
    | refl => exact f
    | step h r => rw [e] at h; cases h; exact ih x r
  | fall f e _ =>
    intro x r
    cases r with
    | refl => exact f
    | step h r => rw [e] at h; cases h
  | over f e _ =>
    intro x r
    cases r with
    | refl => exact f
    | step h r => rw [e] at h; cases h
theorem QEnds.fell {rows : List Qr} {F O : MS → Prop} {d e : QC} {n : Nat} {s : MS} (h : QEnds rows F O d) (r : QReach rows d e) (he : qstep rows e = .fall n s) : F s := by
  induction h with
  | on f e _ ih =>
    cases r with
    | refl => rw [e] at he; cases he
    | step h r => rw [e] at h; cases h; exact ih r
  | fall f e hf =>
    cases r with
    | refl => rw [e] at he; cases he; exact hf
    | step h r => rw [e] at h; cases h
  | over f e _ =>
    cases r with
    | refl => rw [e] at he; cases he
    | step h r => rw [e] at h; cases h
theorem QEnds.ended {rows : List Qr} {F O : MS → Prop} {d e : QC} {s : MS} (h : QEnds rows F O d) (r : QReach rows d e) (he : qstep rows e = .over s) : O s := by
  induction h with
  | on f e _ ih =>
    cases r with
    | refl => rw [e] at he; cases he
    | step h r => rw [e] at h; cases h; exact ih r
  | fall f e hf =>
    cases r with
    | refl => rw [e] at he; cases he
    | step h r => rw [e] at h; cases h
  | over f e hf =>
    cases r with
    | refl => rw [e] at he; cases he; exact hf
    | step h r => rw [e] at h; cases h
structure SameS (t s : MS) : Prop where
  place : t.place = s.place
  st : t.st = s.st
  left : t.left = s.left
  said : t.said = s.said
  last : t.last = s.last
  nm : ∀ x, nget t.names x = nget s.names x
theorem fold_get (f : Str → Vl) : ∀ (l : List Str) (n : Nms) (y : Str), nget (l.foldl (fun n x => nput n x (f x)) n) y = if y ∈ l then some (f y) else nget n y
  | [], n, y => by simp
  | x :: r, n, y => by
    rw [List.foldl_cons, fold_get f r, nget_put]
    by_cases h1 : y ∈ r
    · simp [h1]
    · by_cases h2 : y = x
      · subst h2; simp [h1]
      · simp [h1, h2]
theorem fold_ok {f : Str → Vl} : ∀ {l : List Str} {n : Nms}, NmOk n → (∀ x ∈ l, Nm8 x ∧ (f x).ok) → NmOk (l.foldl (fun n x => nput n x (f x)) n)
  | [], n, h, _ => h
  | x :: r, n, h, hl => by
    rw [List.foldl_cons]
    have hx := hl x (List.mem_cons_self ..)
    exact fold_ok (h.put hx.1 hx.2) fun y hy => hl y (List.mem_cons_of_mem _ hy)
theorem mem_srt {l : List Str} {x : Str} : x ∈ srt l ↔ x ∈ l := (srt_perm l).mem_iff
theorem hget_put (h : Held) (s j : Nat) (v : Vl) : hget (aput h s v) j = if j = s then v else hget h j := by
  unfold hget
  rw [aget_put]
  split <;> rfl
theorem heldOk_put {h : Held} {s j : Nat} {v : Vl} (k : heldOk h j ∨ j = s) : heldOk (aput h s v) j := by
  unfold heldOk
  rw [aget_put]
  rcases k with k | k
  · split
    · rfl
    · exact k
  · rw [if_pos k]; rfl
theorem hget_ok' {h : Held} (hh : ∀ p ∈ h, p.2.ok) (s : Nat) : (hget h s).ok := by
  unfold hget
  cases e : aget h s with
  | none => exact ⟨by decide, by decide⟩
  | some x => exact hh _ (aget_mem e)
theorem wk_some {g : Sg} {x y : Vl} (h : g = .same ∨ x.kind = y.kind) : ∃ z, wk g x y = some z := by
  cases g <;> cases x <;> cases y <;> simp_all [wk, Vl.kind]
theorem wk_kind {g : Sg} {x y z : Vl} {k : Option Kd} (h : wk g x y = some z) (hk : (k = none ∧ g = .same) ∨ (k = some x.kind ∧ g ≠ .same)) : z.kind = madeK g k := by
  cases g <;> cases x <;> cases y <;> simp_all [wk, Vl.kind, madeK] <;> subst h <;> first | rfl | (rcases hk with h | h <;> simp_all)
section
variable (code : List Rw) (hts : List Nat) (top : Nat) (rows : List Qr) (s1 : MS)
/-- what is common to all within a turn -/
structure Base (d : QC) (t : MS) : Prop where
  said : t.said = d.s.said
  left : t.left = d.s.left
  last : t.last = none
  dlast : d.s.last = none
  dpl : d.s.place = top
  dst : d.s.st = []
  hk : (d.held.map (·.1)).Nodup
  hb : ∀ q ∈ d.held, q.1 < rows.length ∧ q.2.ok
  nm : NmOk d.s.names
  in_ : In code hts 0 t
structure Sim (m : Mk) (p : Nat) (d : QC) (t : MS) : Prop where
  b : Base code hts top rows d t
  rch : Reach code s1 t
  at_ : d.at_ = m.rows.length
  pl : t.place = p
  st : t.st = m.hf.map (hget d.held)
  hf : ∀ s ∈ m.hf, s < m.many ∧ heldOk d.held s
  whr : ∀ x s, aget m.whr x = some s → s < m.many ∧ heldOk d.held s
  cw : ∀ x ∈ m.chg.map (·.1), (aget m.whr x).isSome = true
  c8 : ∀ x ∈ m.chg.map (·.1), Nm8 x
  cn : (m.chg.map (·.1)).Nodup
  ch : ∀ x, x ∈ m.chg.map (·.1) → nget t.names x = some (hget d.held ((aget m.whr x).getD 0))
  un : ∀ x, x ∉ m.chg.map (·.1) → nget t.names x = nget d.s.names x
  wu : ∀ x s, x ∉ m.chg.map (·.1) → aget m.whr x = some s → hget d.held s = ngetD d.s.names x
  kn : ∀ s k, aget m.known s = some k → s < m.many ∧ (hget d.held s).kind = k
  many : m.many ≤ m.rows.length
def FF (s' : MS) : Prop := s'.ok ∧ ∃ t, Reach code s1 t ∧ t.last = none ∧ SameS t s'
def OO (s' : MS) : Prop := s'.ok ∧ s'.left < 0 ∧ ∃ t, Reach code s1 t ∧ t.last ≠ none ∧ SameS t s'
structure TopS (d : QC) (t : MS) : Prop where
  b : Base code hts top rows d t
  rch : Reach code s1 (step code t)
  at_ : d.at_ = 0
  pl : t.place = top
  st : t.st = []
  nm : ∀ x, nget t.names x = nget d.s.names x
end
section
variable {code : List Rw} {hts : List Nat} {top : Nat} {rows : List Qr} {s1 : MS}
theorem Base.hl {d : QC} {t : MS} (B : Base code hts top rows d t) (hr : rows.length ≤ 1000000) : d.held.length ≤ 1000000 := by
  have := nodup_lt rows.length _ B.hk (fun x hx => by
    obtain ⟨q, hq, rfl⟩ := List.mem_map.mp hx
    exact (B.hb q hq).1)
  rw [List.length_map] at this
  omega
theorem Base.ok {d : QC} {t : MS} (B : Base code hts top rows d t) : d.s.ok := ⟨B.nm, fun v hv => (by rw [B.dst] at hv; cases hv), fun v hv => B.in_.ok.said v (by rw [B.said]; exact hv)⟩
theorem Base.fit {d : QC} {t : MS} {r : Qr} (B : Base code hts top rows d t) (hr : rows.length ≤ 1000000) (bd : t.said.length < 8000000) (h1 : rows[d.at_]? = some r) (h2 : r.fit d) : QFit rows d :=
  ⟨⟨r, h1, h2⟩, B.ok, fun p hp => (B.hb p hp).2, B.hl hr, by rw [← B.said]; exact bd⟩
theorem Base.slot {d : QC} {t t' : MS} {s : Nat} {v : Vl} (B : Base code hts top rows d t) (hs : s < rows.length) (hv : v.ok) (a : Nat) (i : In code hts 0 t') (e1 : t'.said = t.said) (e2 : t'.left = t.left) (e3 : t'.last = none) : Base code hts top rows ⟨d.s, aput d.held s v, a⟩ t' :=
  ⟨e1.trans B.said, e2.trans B.left, e3, B.dlast, B.dpl, B.dst, aput_nodup B.hk, fun q hq => by
    rcases mem_aput hq with rfl | hq
    · exact ⟨hs, hv⟩
    · exact B.hb q hq, B.nm, i⟩
/-- out by an exit -/
theorem Sim.out {m : Mk} {p q : Nat} {d : QC} {t t' : MS} {h : List Nat} (S : Sim code hts top rows s1 m p d t) (e1 : t'.place = q) (e2 : t'.st = h.map (hget d.held)) (e3 : t'.left = t.left) (e4 : t'.said = t.said) (e5 : t'.last = none) (e6 : t'.names = t.names) (r : Reach code s1 t') : FF code s1 (qleave ({ m with hf := h }.exit q) d.s d.held) := by
  have hok := hget_ok' fun p hp => (S.b.hb p hp).2
  have en : (qleave ({ m with hf := h }.exit q) d.s d.held).names = (srt (m.chg.map (·.1))).foldl (fun n x => nput n x (hget d.held ((aget m.whr x).getD 0))) d.s.names := by
    simp only [qleave, Mk.exit, List.foldl_map]
  refine ⟨⟨?_, fun v hv => ?_, fun v hv => S.b.ok.said v hv⟩, t', r, e5, ?_, ?_, ?_, ?_, ?_, fun x => ?_⟩
  · rw [en]
    exact fold_ok S.b.nm fun x hx => ⟨S.c8 x (mem_srt.mp hx), hok _⟩
  · simp only [qleave, List.mem_reverse, List.mem_map] at hv
    obtain ⟨s, _, rfl⟩ := hv
    exact hok s
  · exact e1
  · rw [e2]; simp [qleave, Mk.exit]
  · exact e3.trans S.b.left
  · exact e4.trans S.b.said
  · rw [e5]; exact S.b.dlast.symm
  · rw [en, fold_get, e6]
    by_cases hx : x ∈ m.chg.map (·.1)
    · rw [if_pos (mem_srt.mpr hx), S.ch x hx]
    · rw [if_neg (fun z => hx (mem_srt.mp z)), S.un x hx]
theorem Sim.xfit {m : Mk} {p q : Nat} {d : QC} {t : MS} {h : List Nat} (T : Ty code hts) (S : Sim code hts top rows s1 m p d t) (hh : ∀ s ∈ h, s ∈ m.hf) (hl : h.length ≤ m.hf.length) : ({ m with hf := h }.exit q).fit d.held := by
  refine ⟨fun x hx => ?_, fun s hs => ?_, ?_, ?_⟩
  · simp only [Mk.exit, List.mem_map] at hx
    obtain ⟨y, hy, rfl⟩ := hx
    have hy' : y ∈ m.chg.map (·.1) := mem_srt.mp hy
    refine ⟨S.c8 y hy', ?_⟩
    obtain ⟨s, hs⟩ := Option.isSome_iff_exists.mp (S.cw y hy')
    simp only [hs, Option.getD_some]
    exact (S.whr y s hs).2
  · simp only [Mk.exit, List.mem_reverse] at hs
    exact (S.hf s (hh s hs)).2
  · simp only [Mk.exit, List.length_map]
    rw [(srt_perm _).length_eq]
    have : (m.chg.map (·.1)).length ≤ 8 := by
      have := NmOk.len (m := (m.chg.map (·.1)).map fun x => (x, Vl.n 0)) ⟨by rw [List.map_map, show ((fun x : Str × Vl => x.fst) ∘ fun x : Str => (x, Vl.n 0)) = id from rfl, List.map_id]; exact S.cn, fun p hp => by
        obtain ⟨x, hx, rfl⟩ := List.mem_map.mp hp
        exact ⟨S.c8 x hx, ⟨by decide, by decide⟩⟩⟩
      simpa using this
    omega
  · simp only [Mk.exit, List.length_reverse]
    have h1 := S.b.in_.small T
    rw [S.st, List.length_map] at h1
    omega
/-- a slot more -/
theorem Sim.slot {m m' : Mk} {p p' : Nat} {d : QC} {t : MS} {r : Qr} {v : Vl} (T : Ty code hts) (S : Sim code hts top rows s1 m p d t) (lt : m.rows.length < rows.length) (hv : v.ok)
    (e1 : m'.rows = m.rows ++ [r]) (e2 : m'.many = m.many + 1) (e3 : m'.chg = m.chg)
    (e4 : ∀ s ∈ m'.hf, s ∈ m.hf ∨ s = m.many) (est : (step code t).st = m'.hf.map (hget (aput d.held m.many v)))
    (e5 : ∀ x s, aget m'.whr x = some s → aget m.whr x = some s ∨ (s = m.many ∧ v = ngetD d.s.names x)) (e5' : ∀ x ∈ m.chg.map (·.1), aget m'.whr x = aget m.whr x)
    (e6 : ∀ s k, aget m'.known s = some k → aget m.known s = some k ∨ (s = m.many ∧ v.kind = k))
    (f1 : (step code t).names = t.names) (f2 : (step code t).said = t.said) (f3 : (step code t).left = t.left) (f4 : (step code t).last = none) (f5 : (step code t).place = p') :
    Sim code hts top rows s1 m' p' ⟨d.s, aput d.held m.many v, d.at_ + 1⟩ (step code t) := by
  have lm : m.many < rows.length := Nat.lt_of_le_of_lt S.many lt
  have old : ∀ s, s < m.many → hget (aput d.held m.many v) s = hget d.held s := fun s hs => by rw [hget_put, if_neg (Nat.ne_of_lt hs)]
  have new : hget (aput d.held m.many v) m.many = v := by rw [hget_put, if_pos rfl]
  refine ⟨S.b.slot lm hv _ (S.b.in_.step T) f2 f3 f4, S.rch.snoc S.b.last, ?_, f5, est, fun s hs => ?_, fun x s hx => ?_, fun x hx => ?_, ?_, ?_, fun x hx => ?_, fun x hx => ?_, fun x s hx hs => ?_, fun s k hs => ?_, ?_⟩
  · rw [e1, List.length_append, S.at_]; rfl
  · rw [e2]
    rcases e4 s hs with h | h
    · have := S.hf s h; exact ⟨by omega, heldOk_put (.inl this.2)⟩
    · exact ⟨by omega, heldOk_put (.inr h)⟩
  · rw [e2]
    rcases e5 x s hx with h | h
    · have := S.whr x s h; exact ⟨by omega, heldOk_put (.inl this.2)⟩
    · exact ⟨by omega, heldOk_put (.inr h.1)⟩
  · rw [e3] at hx
    rw [e5' x hx]
    exact S.cw x hx
  · rw [e3]; exact S.c8
  · rw [e3]; exact S.cn
  · rw [e3] at hx
    rw [f1, e5' x hx, S.ch x hx]
    obtain ⟨s, hs⟩ := Option.isSome_iff_exists.mp (S.cw x hx)
    rw [hs, Option.getD_some, old s (S.whr x s hs).1]
  · rw [e3] at hx
    rw [f1]
    exact S.un x hx
  · rw [e3] at hx
    rcases e5 x s hs with h | h
    · rw [old s (S.whr x s h).1]; exact S.wu x s hx h
    · rw [h.1, new]; exact h.2
  · rw [e2]
    rcases e6 s k hs with h | h
    · have := S.kn s k h; exact ⟨by omega, by rw [old s this.1]; exact this.2⟩
    · rw [h.1, new]; exact ⟨by omega, h.2⟩
  · rw [e2, e1, List.length_append]
    have := S.many
    simp only [List.length_cons, List.length_nil]
    omega
end

/-! quick rows do as plain rows do: row by row -/
section
variable {code : List Rw} {hts : List Nat} {top : Nat} {rows : List Qr} {s1 : MS} {gk : Nat → Option (Kd × Kd)} {gw : Nat → Option Bool} {most : Nat}
theorem guard_rows (m : Mk) (a : Nat) (k : Kd) (p : Nat) : ∃ r, (m.guard a k p).rows = m.rows ++ r := by
  unfold Mk.guard
  split
  · exact ⟨[], by simp⟩
  · exact ⟨_, rfl⟩
theorem row_rows {m m' : Mk} {told : Option (Kd × Kd)} {p : Nat} {r : Rw} (h : m.row told p r = some m') : ∃ x, m'.rows = m.rows ++ x := by
  unfold Mk.row at h
  cases r with
  | num n => simp only at h; cases h; exact ⟨_, rfl⟩
  | text n => simp only at h; cases h; exact ⟨_, rfl⟩
  | name n =>
    simp only at h
    split at h
    · cases h; exact ⟨[], by simp⟩
    · cases h; exact ⟨_, rfl⟩
  | set x =>
    simp only at h
    split at h
    · cases h; exact ⟨[], by simp⟩
    · cases h
  | say =>
    simp only at h
    split at h
    · cases h; exact ⟨_, rfl⟩
    · cases h
  | op g =>
    simp only at h
    split at h
    · next b a rr heq =>
      split at h
      · cases h; exact ⟨_, rfl⟩
      · split at h
        · next k _ =>
          cases h
          obtain ⟨r1, e1⟩ := guard_rows m a k p
          obtain ⟨r2, e2⟩ := guard_rows (m.guard a k p) b k p
          unfold Mk.push
          simp only
          rw [e2, e1]
          exact ⟨_, by rw [List.append_assoc, List.append_assoc]⟩
        · cases h
    · cases h
  | _ => simp only at h; cases h
theorem fol_rows {m m' : Mk} {p p' : Nat} (h : fol code gk gw most m p = some (m', p')) : ∃ x, m'.rows = m.rows ++ x := by
  unfold fol at h
  split at h
  · cases h
  · split at h
    · cases h
    · split at h
      · cases h; exact ⟨[], by simp⟩
      · split at h
        · cases h; exact ⟨_, rfl⟩
        · cases h
      · rw [Option.map_eq_some_iff] at h
        obtain ⟨m1, h1, e⟩ := h
        cases e
        exact row_rows h1
theorem Fol.pre {m : Mk} {p : Nat} {rows : List Qr} (h : Fol code gk gw most top m p rows) : ∃ x, rows = m.rows ++ x := by
  induction h with
  | close m => exact ⟨_, by rw [List.append_assoc]⟩
  | leave _ _ => exact ⟨_, rfl⟩
  | next _ e _ ih =>
    obtain ⟨x, hx⟩ := ih
    obtain ⟨y, hy⟩ := fol_rows e
    exact ⟨y ++ x, by rw [hx, hy, List.append_assoc]⟩
theorem at_pre {l : List Qr} {r : Qr} {x : List Qr} (h : rows = (l ++ [r]) ++ x) : rows[l.length]? = some r ∧ l.length < rows.length := by
  subst h
  refine ⟨?_, by simp⟩
  rw [List.append_assoc, List.getElem?_append_right (Nat.le_refl _), Nat.sub_self]
  rfl
theorem map_put {l : List Nat} {h : Held} {s : Nat} {v : Vl} (hl : ∀ j ∈ l, j < s) : l.map (hget (aput h s v)) = l.map (hget h) := List.map_congr_left fun j hj => by rw [hget_put, if_neg (Nat.ne_of_lt (hl j hj))]
theorem get_put_some {m : List (Nat × Kd)} {n s : Nat} {k k' : Kd} {v : Vl} (hv : v.kind = k') (h : aget (aput m n k') s = some k) : aget m s = some k ∨ (s = n ∧ v.kind = k) := by
  rw [aget_put] at h
  split at h
  · next e => exact .inr ⟨e, by rw [hv]; exact Option.some.inj h⟩
  · exact .inl h
/-- one quick row is done -/
theorem ends_on {d e : QC} {t : MS} {r : Qr} {F O : MS → Prop} (B : Base code hts top rows d t) (hr : rows.length ≤ 1000000) (bd : t.said.length < 8000000) (h1 : rows[d.at_]? = some r) (h2 : r.fit d) (h3 : qrow r d = .on e) (h : QEnds rows F O e) : QEnds rows F O d := .on (B.fit hr bd h1 h2) (by unfold qstep; rw [h1]; exact h3) h
theorem ends_fall {d : QC} {t s : MS} {r : Qr} {F O : MS → Prop} {n : Nat} (B : Base code hts top rows d t) (hr : rows.length ≤ 1000000) (bd : t.said.length < 8000000) (h1 : rows[d.at_]? = some r) (h2 : r.fit d) (h3 : qrow r d = .fall n s) (h : F s) : QEnds rows F O d := .fall (B.fit hr bd h1 h2) (by unfold qstep; rw [h1]; exact h3) h
theorem guard_step {m : Mk} {p a : Nat} {k : Kd} {d : QC} {t : MS} {O : MS → Prop} (T : Ty code hts) (hr : rows.length ≤ 1000000) (bd : t.said.length < 8000000) (S : Sim code hts top rows s1 m p d t) (ha : a ∈ m.hf) (pre : ∃ x, rows = (m.guard a k p).rows ++ x) (hk : ∀ k', aget m.known a = some k' → k' = k)
    (cont : ∀ d', Sim code hts top rows s1 (m.guard a k p) p d' t → d'.held = d.held → (hget d.held a).kind = k → QEnds rows (FF code s1) O d') : QEnds rows (FF code s1) O d := by
  unfold Mk.guard at pre cont
  cases e : aget m.known a with
  | some k' =>
    rw [e] at pre cont
    have := hk k' e
    subst this
    exact cont d S rfl (S.kn a k' e).2
  | none =>
    rw [e] at pre cont
    obtain ⟨x, hx⟩ := pre
    obtain ⟨h1, lt⟩ := at_pre hx
    rw [← S.at_] at h1
    have hf := S.hf a ha
    have fit : (Qr.is a k (m.exit p)).fit d := ⟨hf.2, S.xfit T (fun _ h => h) (Nat.le_refl _)⟩
    by_cases hkd : (hget d.held a).kind = k
    · refine ends_on S.b hr bd h1 fit (e := ⟨d.s, d.held, d.at_ + 1⟩) (by simp only [qrow, if_pos hkd]) (cont ⟨d.s, d.held, d.at_ + 1⟩ ?_ rfl hkd)
      refine ⟨⟨S.b.said, S.b.left, S.b.last, S.b.dlast, S.b.dpl, S.b.dst, S.b.hk, S.b.hb, S.b.nm, S.b.in_⟩, S.rch, by simp [S.at_], S.pl, S.st, S.hf, S.whr, S.cw, S.c8, S.cn, S.ch, S.un, S.wu, fun s k' hs => ?_, by have := S.many; simp only [List.length_append, List.length_cons, List.length_nil]; omega⟩
      rcases get_put_some hkd hs with h | h
      · exact S.kn s k' h
      · rw [h.1]; exact ⟨hf.1, h.2⟩
    · exact ends_fall (n := d.at_) S.b hr bd h1 fit (by simp only [qrow, if_neg hkd]) (S.out (h := m.hf) S.pl S.st rfl rfl S.b.last rfl S.rch)
theorem push_step {m : Mk} {p a b : Nat} {r : List Nat} {g : Sg} {k : Option Kd} {d : QC} {t : MS} {F O : MS → Prop} (T : Ty code hts) (hr : rows.length ≤ 1000000) (bd : t.said.length < 8000000) (S : Sim code hts top rows s1 m p d t) (hc : code[p]? = some (.op g)) (hf : m.hf = b :: a :: r) (pre : ∃ x, rows = (m.push g k a b r).rows ++ x)
    (hk : (k = none ∧ g = .same) ∨ (k = some (hget d.held a).kind ∧ g ≠ .same ∧ (hget d.held a).kind = (hget d.held b).kind))
    (cont : ∀ d', Sim code hts top rows s1 (m.push g k a b r) (p + 1) d' (step code t) → QEnds rows F O d') : QEnds rows F O d := by
  obtain ⟨x, hx⟩ := pre
  obtain ⟨h1, lt⟩ := at_pre hx
  rw [← S.at_] at h1
  have fa := S.hf a (by rw [hf]; simp)
  have fb := S.hf b (by rw [hf]; simp)
  obtain ⟨z, hz⟩ := wk_some (g := g) (x := hget d.held a) (y := hget d.held b) (by rcases hk with h | h; exact .inl h.2; exact .inr h.2.2)
  have zk : z.kind = madeK g k := wk_kind hz (by rcases hk with h | h; exact .inl h; exact .inr ⟨h.1, h.2.1⟩)
  have hok := hget_ok' fun p hp => (S.b.hb p hp).2
  have est : step code t = { t with st := z :: r.map (hget d.held), place := t.place + 1 } := by
    rw [step_at (by rw [S.pl]; exact hc)]
    unfold stepR
    have : t.st = hget d.held b :: hget d.held a :: r.map (hget d.held) := by rw [S.st, hf]; rfl
    rw [this]
    simp only [hz]
  refine ends_on S.b hr bd h1 (e := ⟨d.s, aput d.held m.many z, d.at_ + 1⟩) ⟨fa.2, fb.2, by rw [hz]; rfl⟩ (by simp only [qrow, hz]) (cont _ ?_)
  refine S.slot T lt (wk_ok (hok a) (hok b) hz) rfl rfl rfl (fun s hs => ?_) ?_ (fun x s h => .inl h) (fun _ _ => rfl) (fun s k' h => get_put_some zk h) ?_ ?_ ?_ ?_ ?_
  · rcases List.mem_cons.mp hs with h | h
    · exact .inr h
    · exact .inl (by rw [hf]; simp [h])
  · rw [est]
    show z :: _ = (m.many :: r).map _
    rw [List.map_cons, hget_put, if_pos rfl, map_put fun j hj => (S.hf j (by rw [hf]; simp [hj])).1]
  · rw [est]
  · rw [est]
  · rw [est]
  · rw [est]; exact S.b.last
  · rw [est]; show t.place + 1 = _; rw [S.pl]
end

/-! quick rows do as plain rows do: all rows -/
section
variable {code : List Rw} {hts : List Nat} {top : Nat} {rows : List Qr} {s1 : MS} {gk : Nat → Option (Kd × Kd)} {gw : Nat → Option Bool} {most : Nat}
/-- a plain row that needs no quick one -/
theorem Sim.same {m m' : Mk} {p p' : Nat} {d : QC} {t : MS} (T : Ty code hts) (S : Sim code hts top rows s1 m p d t) (e1 : m'.rows = m.rows) (e2 : m'.many = m.many) (e3 : m'.whr = m.whr) (e4 : m'.chg = m.chg) (e5 : m'.known = m.known)
    (e6 : ∀ s ∈ m'.hf, s < m.many ∧ heldOk d.held s) (est : (step code t).st = m'.hf.map (hget d.held))
    (f1 : (step code t).names = t.names) (f2 : (step code t).said = t.said) (f3 : (step code t).left = t.left) (f4 : (step code t).last = none) (f5 : (step code t).place = p') : Sim code hts top rows s1 m' p' d (step code t) := by
  refine ⟨⟨f2.trans S.b.said, f3.trans S.b.left, f4, S.b.dlast, S.b.dpl, S.b.dst, S.b.hk, S.b.hb, S.b.nm, S.b.in_.step T⟩, S.rch.snoc S.b.last, by rw [e1]; exact S.at_, f5, est, by rw [e2]; exact e6, by rw [e2, e3]; exact S.whr, by rw [e3, e4]; exact S.cw, by rw [e4]; exact S.c8, by rw [e4]; exact S.cn, by rw [e3, e4, f1]; exact S.ch, by rw [e4, f1]; exact S.un, by rw [e3, e4]; exact S.wu, by rw [e2, e5]; exact S.kn, by rw [e1, e2]; exact S.many⟩
theorem ends_row {m m' : Mk} {p : Nat} {r : Rw} {d : QC} {t : MS} {told : Option (Kd × Kd)} {O : MS → Prop} (T : Ty code hts) (hr : rows.length ≤ 1000000) (bd : t.said.length < 8000000) (S : Sim code hts top rows s1 m p d t) (hc : code[p]? = some r) (hm : m.row told p r = some m') (pre : ∃ x, rows = m'.rows ++ x)
    (cont : ∀ d', Sim code hts top rows s1 m' (p + 1) d' (step code t) → QEnds rows (FF code s1) O d') : QEnds rows (FF code s1) O d := by
  have hst := step_at (code := code) (s := t) (r := r) (by rw [S.pl]; exact hc)
  have hok := hget_ok' fun p hp => (S.b.hb p hp).2
  have okv : r.okv := by
    obtain ⟨r', k, h1, _, _, h4, _⟩ := T.rows p (List.getElem?_eq_some_iff.mp hc).1
    rw [hc] at h1; cases h1; exact h4
  unfold Mk.row at hm
  cases r with
  | num n =>
    simp only at hm
    cases hm
    obtain ⟨x, hx⟩ := pre
    obtain ⟨h1, lt⟩ := at_pre hx
    rw [← S.at_] at h1
    refine ends_on S.b hr bd h1 (e := ⟨d.s, aput d.held m.many (.n n), d.at_ + 1⟩) okv rfl (cont _ ?_)
    refine S.slot T lt (v := .n n) ⟨okv.1, by have := okv.2; omega⟩ rfl rfl rfl (fun s hs => (List.mem_cons.mp hs).symm) ?_ (fun x s h => .inl h) (fun _ _ => rfl) (fun s k' h => get_put_some (v := .n n) rfl h) (by rw [hst]; rfl) (by rw [hst]; rfl) (by rw [hst]; rfl) (by rw [hst]; exact S.b.last) (by rw [hst]; show t.place + 1 = _; rw [S.pl])
    rw [hst]
    show Vl.n n :: t.st = (m.many :: m.hf).map _
    rw [List.map_cons, hget_put, if_pos rfl, map_put fun j hj => (S.hf j hj).1, S.st]
  | text n =>
    simp only at hm
    cases hm
    obtain ⟨x, hx⟩ := pre
    obtain ⟨h1, lt⟩ := at_pre hx
    rw [← S.at_] at h1
    refine ends_on S.b hr bd h1 (e := ⟨d.s, aput d.held m.many (.t n), d.at_ + 1⟩) okv rfl (cont _ ?_)
    refine S.slot T lt (v := .t n) okv rfl rfl rfl (fun s hs => (List.mem_cons.mp hs).symm) ?_ (fun x s h => .inl h) (fun _ _ => rfl) (fun s k' h => get_put_some (v := .t n) rfl h) (by rw [hst]; rfl) (by rw [hst]; rfl) (by rw [hst]; rfl) (by rw [hst]; exact S.b.last) (by rw [hst]; show t.place + 1 = _; rw [S.pl])
    rw [hst]
    show Vl.t n :: t.st = (m.many :: m.hf).map _
    rw [List.map_cons, hget_put, if_pos rfl, map_put fun j hj => (S.hf j hj).1, S.st]
  | name x =>
    simp only at hm
    cases hw : aget m.whr x with
    | some s =>
      rw [hw] at hm
      cases hm
      refine cont d (S.same T rfl rfl rfl rfl rfl (fun j hj => ?_) ?_ (by rw [hst]; rfl) (by rw [hst]; rfl) (by rw [hst]; rfl) (by rw [hst]; exact S.b.last) (by rw [hst]; show t.place + 1 = _; rw [S.pl]))
      · rcases List.mem_cons.mp hj with h | h
        · rw [h]; exact S.whr x s hw
        · exact S.hf j h
      · rw [hst]
        show ngetD t.names x :: t.st = hget d.held s :: m.hf.map _
        rw [S.st]
        congr 1
        unfold ngetD
        by_cases hx : x ∈ m.chg.map (·.1)
        · rw [S.ch x hx, hw]; rfl
        · rw [S.un x hx]; exact (S.wu x s hx hw).symm
    | none =>
      rw [hw] at hm
      cases hm
      obtain ⟨y, hy⟩ := pre
      obtain ⟨h1, lt⟩ := at_pre hy
      rw [← S.at_] at h1
      have nx : x ∉ m.chg.map (·.1) := fun h => by have := S.cw x h; rw [hw] at this; cases this
      refine ends_on S.b hr bd h1 (e := ⟨d.s, aput d.held m.many (ngetD d.s.names x), d.at_ + 1⟩) okv rfl (cont _ ?_)
      refine S.slot T lt (v := ngetD d.s.names x) (S.b.nm.get x) rfl rfl rfl (fun s hs => (List.mem_cons.mp hs).symm) ?_ (fun z s h => ?_) (fun z hz => ?_) (fun s k' h => .inl h) (by rw [hst]; rfl) (by rw [hst]; rfl) (by rw [hst]; rfl) (by rw [hst]; exact S.b.last) (by rw [hst]; show t.place + 1 = _; rw [S.pl])
      · rw [hst]
        show ngetD t.names x :: t.st = (m.many :: m.hf).map _
        rw [List.map_cons, hget_put, if_pos rfl, map_put fun j hj => (S.hf j hj).1, S.st]
        unfold ngetD
        rw [S.un x nx]
      · rw [aget_put] at h
        split at h
        · next e => rw [e]; exact .inr ⟨(Option.some.inj h).symm, rfl⟩
        · exact .inl h
      · rw [aget_put, if_neg (fun e => nx (by rw [← e]; exact hz))]
  | set x =>
    simp only at hm
    cases hh : m.hf with
    | nil => rw [hh] at hm; cases hm
    | cons s r =>
      rw [hh] at hm
      cases hm
      have est : step code t = { t with st := r.map (hget d.held), names := nput t.names x (hget d.held s), place := t.place + 1 } := by
        rw [hst]
        unfold stepR
        rw [S.st, hh]
        rfl
      have mc : ∀ y, y ∈ (aput m.chg x true).map (·.1) ↔ y ∈ m.chg.map (·.1) ∨ y = x := by
        intro y
        rw [aput_keys]
        split
        · next h => exact ⟨.inl, fun z => by rcases z with z | z; exact z; rw [z]; exact h⟩
        · simp
      refine cont d ⟨⟨?_, ?_, ?_, S.b.dlast, S.b.dpl, S.b.dst, S.b.hk, S.b.hb, S.b.nm, S.b.in_.step T⟩, S.rch.snoc S.b.last, S.at_, ?_, ?_, fun j hj => S.hf j (by rw [hh]; simp [hj]), fun y j hj => ?_, fun y hy => ?_, fun y hy => ?_, aput_nodup S.cn, fun y hy => ?_, fun y hy => ?_, fun y j hy hj => ?_, S.kn, S.many⟩
      · rw [est]; exact S.b.said
      · rw [est]; exact S.b.left
      · rw [est]; exact S.b.last
      · rw [est]; show t.place + 1 = _; rw [S.pl]
      · rw [est]
      · simp only at hj
        rw [aget_put] at hj
        split at hj
        · rw [← Option.some.inj hj]; exact S.hf s (by rw [hh]; simp)
        · exact S.whr y j hj
      · simp only at hy ⊢
        rw [aget_put]
        split
        · rfl
        · next ne => exact S.cw y (((mc y).mp hy).resolve_right ne)
      · rcases (mc y).mp hy with h | h
        · exact S.c8 y h
        · rw [h]; exact okv
      · rw [est]
        simp only
        rw [nget_put, aget_put]
        by_cases e : y = x
        · rw [if_pos e, if_pos e]; rfl
        · rw [if_neg e, if_neg e]; exact S.ch y (((mc y).mp hy).resolve_right e)
      · rw [est]
        simp only
        have h1 : y ∉ m.chg.map (·.1) := fun z => hy ((mc y).mpr (.inl z))
        have h2 : ¬ y = x := fun z => hy ((mc y).mpr (.inr z))
        rw [nget_put, if_neg h2]
        exact S.un y h1
      · have h1 : y ∉ m.chg.map (·.1) := fun z => hy ((mc y).mpr (.inl z))
        have h2 : ¬ y = x := fun z => hy ((mc y).mpr (.inr z))
        simp only at hj
        rw [aget_put, if_neg h2] at hj
        exact S.wu y j h1 hj
  | say =>
    simp only at hm
    cases hh : m.hf with
    | nil => rw [hh] at hm; cases hm
    | cons s r =>
      rw [hh] at hm
      cases hm
      obtain ⟨y, hy⟩ := pre
      obtain ⟨h1, lt⟩ := at_pre hy
      rw [← S.at_] at h1
      have est : step code t = { t with st := r.map (hget d.held), said := t.said ++ [hget d.held s], place := t.place + 1 } := by
        rw [hst]
        unfold stepR
        rw [S.st, hh]
        rfl
      refine ends_on S.b hr bd h1 (e := ⟨{ d.s with said := d.s.said ++ [hget d.held s] }, d.held, d.at_ + 1⟩) (S.hf s (by rw [hh]; simp)).2 rfl (cont _ ?_)
      refine ⟨⟨?_, ?_, ?_, S.b.dlast, S.b.dpl, S.b.dst, S.b.hk, S.b.hb, S.b.nm, S.b.in_.step T⟩, S.rch.snoc S.b.last, ?_, ?_, ?_, fun j hj => S.hf j (by rw [hh]; simp [hj]), S.whr, S.cw, S.c8, S.cn, ?_, ?_, S.wu, S.kn, ?_⟩
      · rw [est]; show t.said ++ _ = d.s.said ++ _; rw [S.b.said]
      · rw [est]; exact S.b.left
      · rw [est]; exact S.b.last
      · simp [S.at_]
      · rw [est]; show t.place + 1 = _; rw [S.pl]
      · rw [est]
      · rw [est]; exact S.ch
      · rw [est]; exact S.un
      · have := S.many; simp only [List.length_append, List.length_cons, List.length_nil]; omega
  | op g =>
    simp only at hm
    split at hm
    · next b a r hh =>
      split at hm
      · next hg =>
        cases hm
        exact push_step T hr bd S hc hh pre (.inl ⟨rfl, hg⟩) cont
      · next hg =>
        split at hm
        · next k hgu =>
          cases hm
          have hka : ∀ k', aget m.known a = some k' → k' = k := by
            intro k' e
            unfold Mk.guess at hgu
            rw [e] at hgu
            simp only [Option.some_or] at hgu
            split at hgu
            · next x y e1 e2 =>
              split at hgu
              · cases e1; exact Option.some.inj hgu
              · cases hgu
            · cases hgu
          have hkb : ∀ k', aget m.known b = some k' → k' = k := by
            intro k' e
            unfold Mk.guess at hgu
            rw [e] at hgu
            simp only [Option.some_or] at hgu
            split at hgu
            · next x y e1 e2 =>
              split at hgu
              · next exy => cases e2; rw [← exy]; exact Option.some.inj hgu
              · cases hgu
            · cases hgu
          have hf1 : ∀ (m : Mk) a, (m.guard a k p).hf = m.hf := fun m a => by unfold Mk.guard; split <;> rfl
          have pre2 : ∃ x, rows = ((m.guard a k p).guard b k p).rows ++ x := by
            obtain ⟨x, hx⟩ := pre
            exact ⟨_, by rw [hx]; unfold Mk.push; simp only; rw [List.append_assoc]⟩
          have pre1 : ∃ x, rows = (m.guard a k p).rows ++ x := by
            obtain ⟨x, hx⟩ := pre2
            obtain ⟨y, hy⟩ := guard_rows (m.guard a k p) b k p
            exact ⟨_, by rw [hx, hy, List.append_assoc]⟩
          refine guard_step T hr bd S (by rw [hh]; simp) pre1 hka fun d1 S1 e1 k1 => ?_
          refine guard_step T hr bd S1 (by rw [hf1, hh]; simp) pre2 ?_ fun d2 S2 e2 k2 => ?_
          · intro k' e
            unfold Mk.guard at e
            split at e
            · exact hkb k' e
            · simp only at e
              rw [aget_put] at e
              split at e
              · exact (Option.some.inj e).symm
              · exact hkb k' e
          · rw [e1] at k2
            refine push_step T hr bd S2 hc (by rw [hf1, hf1, hh]) pre (.inr ⟨?_, hg, ?_⟩) cont
            · rw [e2, e1, k1]
            · rw [e2, e1, k1, k2]
        · cases hm
    · cases hm
  | _ => simp only at hm; cases hm
end

/-! quick rows do as plain rows do: turn by turn -/
section
variable {code : List Rw} {hts : List Nat} {top : Nat} {rows : List Qr} {s1 : MS} {gk : Nat → Option (Kd × Kd)} {gw : Nat → Option Bool} {most : Nat}
theorem top_zero {t : MS} (T : Ty code hts) (i : In code hts 0 t) (h : code[t.place]? = some .top) : t.st = [] := by
  obtain ⟨r, k, h1, h2, h3, _⟩ := T.rows _ (i.lt T)
  rw [h] at h1
  cases h1
  obtain ⟨k', e, hl⟩ := i.at_
  rw [h2] at e
  cases e
  have : k = 0 := h3.1
  exact List.eq_nil_of_length_eq_zero (by omega)
theorem ends_close {m : Mk} {d : QC} {t : MS} {F O : MS → Prop} (T : Ty code hts) (hr : rows.length ≤ 1000000) (bd : t.said.length < 8000000) (ht : code[top]? = some .top) (S : Sim code hts top rows s1 m top d t) (er : rows = m.rows ++ m.puts ++ [.again])
    (hT : ∀ d' t', TopS code hts top rows s1 d' t' → t'.left = t.left → QEnds rows F O d') : QEnds rows F O d := by
  have hok := hget_ok' fun p hp => (S.b.hb p hp).2
  have st0 : t.st = [] := top_zero T S.b.in_ (by rw [S.pl]; exact ht)
  let f : Str → Vl := fun x => hget d.held ((aget m.whr x).getD 0)
  have key : ∀ (l2 l1 : List Str), srt (m.chg.map (·.1)) = l1 ++ l2 → QEnds rows F O ⟨{ d.s with names := l1.foldl (fun n x => nput n x (f x)) d.s.names }, d.held, m.rows.length + l1.length⟩ := by
    intro l2
    induction l2 with
    | nil =>
      intro l1 hl
      rw [List.append_nil] at hl
      have n8 : NmOk (l1.foldl (fun n x => nput n x (f x)) d.s.names) := fold_ok S.b.nm fun x hx => ⟨S.c8 x (mem_srt.mp (by rw [hl]; exact hx)), hok _⟩
      have B : Base code hts top rows ⟨{ d.s with names := l1.foldl (fun n x => nput n x (f x)) d.s.names }, d.held, m.rows.length + l1.length⟩ t := ⟨S.b.said, S.b.left, S.b.last, S.b.dlast, S.b.dpl, S.b.dst, S.b.hk, S.b.hb, n8, S.b.in_⟩
      have h1 : rows[m.rows.length + l1.length]? = some .again := by
        have e : m.rows.length + l1.length = (m.rows ++ m.puts).length := by simp [Mk.puts, hl]
        rw [er, e, List.getElem?_append_right (Nat.le_refl _), Nat.sub_self]
        rfl
      refine ends_on B hr bd h1 (e := ⟨{ d.s with names := l1.foldl (fun n x => nput n x (f x)) d.s.names }, d.held, 0⟩) trivial rfl (hT _ t ⟨⟨B.said, B.left, B.last, B.dlast, B.dpl, B.dst, B.hk, B.hb, B.nm, B.in_⟩, S.rch.snoc S.b.last, rfl, S.pl, st0, fun x => ?_⟩ rfl)
      simp only
      rw [fold_get, ← hl]
      by_cases hx : x ∈ m.chg.map (·.1)
      · rw [if_pos (mem_srt.mpr hx), S.ch x hx]
      · rw [if_neg (fun z => hx (mem_srt.mp z)), S.un x hx]
    | cons x r ih =>
      intro l1 hl
      have n8 : NmOk (l1.foldl (fun n x => nput n x (f x)) d.s.names) := fold_ok S.b.nm fun y hy => ⟨S.c8 y (mem_srt.mp (by rw [hl]; simp [hy])), hok _⟩
      have B : Base code hts top rows ⟨{ d.s with names := l1.foldl (fun n x => nput n x (f x)) d.s.names }, d.held, m.rows.length + l1.length⟩ t := ⟨S.b.said, S.b.left, S.b.last, S.b.dlast, S.b.dpl, S.b.dst, S.b.hk, S.b.hb, n8, S.b.in_⟩
      have hx : x ∈ m.chg.map (·.1) := mem_srt.mp (by rw [hl]; simp)
      obtain ⟨s, hs⟩ := Option.isSome_iff_exists.mp (S.cw x hx)
      have h1 : rows[m.rows.length + l1.length]? = some (.put x ((aget m.whr x).getD 0)) := by
        rw [er, List.append_assoc, List.getElem?_append_right (by omega), Nat.add_sub_cancel_left, List.getElem?_append_left (by simp [Mk.puts, hl])]
        unfold Mk.puts
        rw [hl, List.getElem?_map, List.getElem?_append_right (Nat.le_refl _), Nat.sub_self]
        rfl
      have ih' := ih (l1 ++ [x]) (by rw [hl]; simp)
      rw [List.foldl_append, List.length_append] at ih'
      exact ends_on B hr bd h1 ⟨S.c8 x hx, by rw [hs]; exact (S.whr x s hs).2⟩ rfl ih'
  have := key _ [] rfl
  rw [List.foldl_nil, List.length_nil, Nat.add_zero, ← S.at_] at this
  exact this
theorem ends_fol {m : Mk} {p : Nat} (T : Ty code hts) (ht : code[top]? = some .top) (bd : Bd code s1) (h : Fol code gk gw most top m p rows) : rows.length ≤ 1000000 → ∀ d t, Sim code hts top rows s1 m p d t → (∀ d' t', TopS code hts top rows s1 d' t' → t'.left = t.left → QEnds rows (FF code s1) (OO code s1) d') → QEnds rows (FF code s1) (OO code s1) d := by
  induction h with
  | close m =>
    intro hr d t S hT
    exact ends_close T hr (bd t S.rch) ht S rfl hT
  | leave hp he =>
    rename_i m p
    intro hr d t S hT
    have h1 : (m.rows ++ [.leave (m.exit p)])[d.at_]? = some (.leave (m.exit p)) := by
      rw [S.at_, List.getElem?_append_right (Nat.le_refl _), Nat.sub_self]
      rfl
    exact ends_fall (n := d.at_) S.b hr (bd t S.rch) h1 (S.xfit T (h := m.hf) (fun _ h => h) (Nat.le_refl _)) rfl (S.out (h := m.hf) S.pl S.st rfl rfl S.b.last rfl S.rch)
  | next hp he hF ih =>
    rename_i m m' p p' rows
    intro hr d t S hT
    have pre := hF.pre
    unfold fol at he
    cases hc : code[p]? with
    | none => rw [hc] at he; cases he
    | some r =>
      rw [hc] at he
      simp only at he
      have hst := step_at (code := code) (s := t) (r := r) (by rw [S.pl]; exact hc)
      have bt := bd t S.rch
      split at he
      · cases he
      · have fin : ∀ d', Sim code hts top rows s1 m' p' d' (step code t) → (step code t).left = t.left → QEnds rows (FF code s1) (OO code s1) d' := fun d' S' hl => ih hr d' _ S' fun d'' t'' S'' h'' => hT d'' t'' S'' (h''.trans hl)
        have gen : ∀ {r : Rw}, code[p]? = some r → r ≠ .top → (m.row (gk p) p r).map (fun m' => (m', p + 1)) = some (m', p') → QEnds rows (FF code s1) (OO code s1) d := by
          intro r hc hr' h
          rw [Option.map_eq_some_iff] at h
          obtain ⟨m1, h1, e⟩ := h
          cases e
          refine ends_row T hr bt S hc h1 pre fun d' S' => fin d' S' ?_
          rw [step_at (code := code) (s := t) (r := r) (by rw [S.pl]; exact hc)]
          unfold stepR
          cases r with
          | top => exact absurd rfl hr'
          | op g =>
            simp only
            split
            · split <;> rfl
            · rfl
          | say => simp only; split <;> rfl
          | set x => simp only; split <;> rfl
          | «unless» q => simp only; split <;> rfl
          | _ => rfl
        cases r with
        | go z =>
          simp only at he
          cases he
          refine fin d (S.same T rfl rfl rfl rfl rfl S.hf ?_ ?_ ?_ ?_ ?_ ?_) ?_
          all_goals rw [hst]
          all_goals first | exact S.st | exact S.b.last | rfl
        | «unless» q =>
          simp only at he
          split at he
          · next w s h hw hh =>
            cases he
            obtain ⟨x, hx⟩ := pre
            obtain ⟨h1, lt⟩ := at_pre hx
            rw [← S.at_] at h1
            have est : step code t = { t with st := h.map (hget d.held), place := if (hget d.held s).so then p + 1 else q } := by
              rw [hst]
              unfold stepR
              rw [S.st, hh, S.pl]
              rfl
            have fs := S.hf s (by rw [hh]; simp)
            have fit : (Qr.so s w ({ m with hf := h }.exit (if w = true then q else p + 1))).fit d := ⟨fs.2, S.xfit T (fun j hj => by rw [hh]; simp [hj]) (by rw [hh]; simp)⟩
            by_cases hs : (hget d.held s).so = w
            · refine ends_on S.b hr bt h1 fit (e := ⟨d.s, d.held, d.at_ + 1⟩) (by simp only [qrow, if_pos hs]) (fin _ ?_ (by rw [est]))
              refine ⟨⟨?_, ?_, ?_, S.b.dlast, S.b.dpl, S.b.dst, S.b.hk, S.b.hb, S.b.nm, S.b.in_.step T⟩, S.rch.snoc S.b.last, ?_, ?_, ?_, fun j hj => S.hf j (by rw [hh]; simp [hj]), S.whr, S.cw, S.c8, S.cn, ?_, ?_, S.wu, S.kn, ?_⟩
              · rw [est]; exact S.b.said
              · rw [est]; exact S.b.left
              · rw [est]; exact S.b.last
              · simp [S.at_]
              · rw [est, hs]
              · rw [est]
              · rw [est]; exact S.ch
              · rw [est]; exact S.un
              · have := S.many; simp only [List.length_append, List.length_cons, List.length_nil]; omega
            · refine ends_fall (n := d.at_) S.b hr bt h1 fit (by simp only [qrow, if_neg hs]) (S.out (h := h) (q := if w = true then q else p + 1) (t' := step code t) ?_ ?_ ?_ ?_ ?_ ?_ (S.rch.snoc S.b.last))
              · rw [est]
                simp only
                cases w <;> cases e : (hget d.held s).so <;> simp_all
              · rw [est]
              · rw [est]
              · rw [est]
              · rw [est]; exact S.b.last
              · rw [est]
          · cases he
        | num n => exact gen hc (by simp) he
        | text n => exact gen hc (by simp) he
        | name n => exact gen hc (by simp) he
        | set n => exact gen hc (by simp) he
        | say => exact gen hc (by simp) he
        | op g => exact gen hc (by simp) he
        | top => next hh => exact absurd (.inr rfl) hh
        | fin => next hh => exact absurd (.inr rfl) hh
theorem ends_top (T : Ty code hts) (ht : code[top]? = some .top) (bd : Bd code s1) (h : Quick code gk gw most top rows) (hr : rows.length ≤ 1000000) : ∀ (n : Nat) (d : QC) (t : MS), t.left.toNat ≤ n → TopS code hts top rows s1 d t → t.said.length < 8000000 → QEnds rows (FF code s1) (OO code s1) d := by
  obtain ⟨x, hx⟩ := h.pre
  have h0 : rows[0]? = some .turn := by rw [hx]; rfl
  intro n
  induction n with
  | zero =>
    intro d t hn S bt
    have h1 : rows[d.at_]? = some .turn := by rw [S.at_]; exact h0
    have hneg : d.s.left - 1 < 0 := by have := S.b.left; omega
    have est : step code t = { t with left := t.left - 1, last := some .dry } := by
      rw [step_at (by rw [S.pl]; exact ht)]
      unfold stepR
      simp only
      rw [if_pos (by rw [S.b.left]; exact hneg)]
    refine .over (S.b.fit hr bt h1 trivial) (s := { d.s with left := d.s.left - 1, last := some .dry }) (by unfold qstep; rw [h1]; simp only [qrow, if_pos hneg]) ⟨⟨S.b.nm, S.b.ok.st, S.b.ok.said⟩, hneg, step code t, S.rch, ?_, ?_⟩
    · rw [est]; simp
    · rw [est]
      exact ⟨S.pl.trans S.b.dpl.symm, S.st.trans S.b.dst.symm, by simp only; rw [S.b.left], S.b.said, rfl, S.nm⟩
  | succ n ih =>
    intro d t hn S bt
    have h1 : rows[d.at_]? = some .turn := by rw [S.at_]; exact h0
    by_cases hneg : d.s.left - 1 < 0
    · have est : step code t = { t with left := t.left - 1, last := some .dry } := by
        rw [step_at (by rw [S.pl]; exact ht)]
        unfold stepR
        simp only
        rw [if_pos (by rw [S.b.left]; exact hneg)]
      refine .over (S.b.fit hr bt h1 trivial) (s := { d.s with left := d.s.left - 1, last := some .dry }) (by unfold qstep; rw [h1]; simp only [qrow, if_pos hneg]) ⟨⟨S.b.nm, S.b.ok.st, S.b.ok.said⟩, hneg, step code t, S.rch, ?_, ?_⟩
      · rw [est]; simp
      · rw [est]
        exact ⟨S.pl.trans S.b.dpl.symm, S.st.trans S.b.dst.symm, by simp only; rw [S.b.left], S.b.said, rfl, S.nm⟩
    · have est : step code t = { t with left := t.left - 1, place := t.place + 1 } := by
        rw [step_at (by rw [S.pl]; exact ht)]
        unfold stepR
        simp only
        rw [if_neg (by rw [S.b.left]; exact hneg)]
      refine ends_on S.b hr bt h1 trivial (e := ⟨{ d.s with left := d.s.left - 1 }, d.held, d.at_ + 1⟩) (by simp only [qrow, if_neg hneg]) ?_
      have bs := bd _ S.rch
      refine ends_fol T ht bd h hr _ (step code t) ?_ fun d' t' S' hl => ih d' t' ?_ S' ?_
      · refine ⟨⟨?_, ?_, ?_, S.b.dlast, S.b.dpl, S.b.dst, S.b.hk, S.b.hb, S.b.nm, S.b.in_.step T⟩, S.rch, ?_, ?_, ?_, fun j hj => (by cases hj), fun y j hj => (by cases hj), fun y hy => (by cases hy), fun y hy => (by cases hy), by simp [Mk0], fun y hy => (by cases hy), fun y _ => ?_, fun y j _ hj => (by cases hj), fun j k hj => (by cases hj), by simp [Mk0]⟩
        · rw [est]; exact S.b.said
        · rw [est]; show t.left - 1 = d.s.left - 1; rw [S.b.left]
        · rw [est]; exact S.b.last
        · simp [S.at_, Mk0]
        · rw [est]; show t.place + 1 = _; rw [S.pl]
        · rw [est]; exact S.st
        · rw [est]; exact S.nm y
      · have := S.b.left
        rw [hl, est]
        simp only
        omega
      · have e : (step code t').said = t'.said := by
          rw [step_at (by rw [S'.pl]; exact ht)]
          unfold stepR
          simp only
          split <;> rfl
        rw [← e]
        exact bd _ S'.rch
/-- quick rows, run from a state at their top -/
theorem quick_plain {s : MS} (T : Ty code hts) (ht : code[top]? = some .top) (h : Quick code gk gw most top rows) (hr : rows.length ≤ 1000000) (i : In code hts 0 s) (hp : s.place = top) (hl : s.last = none) (bd : Bd code s) : rows[0]? = some .turn ∧ QEnds rows (FF code (step code s)) (OO code (step code s)) ⟨s, [], 0⟩ := by
  obtain ⟨x, hx⟩ := h.pre
  have st0 : s.st = [] := top_zero T i (by rw [hp]; exact ht)
  exact ⟨by rw [hx]; rfl, ends_top T ht (bd.reach (.one hl)) h hr _ _ s (Nat.le_refl _) ⟨⟨rfl, rfl, hl, hl, hp, st0, by simp, fun q hq => (by cases hq), i.ok.nm, i⟩, .refl _, rfl, hp, st0, fun _ => rfl⟩ (bd s (.refl _))⟩
end

theorem nodup_sub {α : Type} [DecidableEq α] : ∀ {l k : List α}, l.Nodup → (∀ x ∈ l, x ∈ k) → l.length ≤ k.length
  | [], k, _, _ => Nat.zero_le _
  | a :: r, k, hn, h => by
    rw [List.nodup_cons] at hn
    have ha := h a (List.mem_cons_self ..)
    have := nodup_sub (k := k.erase a) hn.2 fun x hx => by
      have ne : x ≠ a := fun e => hn.1 (by rw [← e]; exact hx)
      exact (List.mem_erase_of_ne ne).mpr (h x (List.mem_cons_of_mem _ hx))
    rw [List.length_erase_of_mem ha] at this
    have := List.length_pos_of_mem ha
    simp only [List.length_cons]
    omega
theorem nget_none {m : Nms} {x : Str} : nget m x = none ↔ x ∉ m.map (·.1) := by
  constructor
  · intro h hx
    obtain ⟨p, hp, rfl⟩ := List.mem_map.mp hx
    unfold nget at h
    rw [Option.map_eq_none_iff, List.find?_eq_none] at h
    exact h p hp (by simp)
  · intro h
    cases e : nget m x with
    | none => rfl
    | some v =>
      obtain ⟨p, hp, h1, _⟩ := nget_mem e
      exact absurd (by rw [← h1]; exact List.mem_map_of_mem hp) h
theorem keys_sub {m k : Nms} (h : ∀ x, nget m x = nget k x) : ∀ x ∈ m.map (·.1), x ∈ k.map (·.1) := fun x hx => by
  refine Classical.byContradiction fun hn => ?_
  have := nget_none.mpr hn
  rw [← h x] at this
  exact nget_none.mp this hx
theorem eqK_of {m k : Nms} (hm : NmOk m) (hk : NmOk k) (h : ∀ x, nget m x = nget k x) : EqK (kvs m) (kvs k) := by
  refine ⟨?_, fun p hp => ?_⟩
  · have h1 := nodup_sub hm.1 (keys_sub h)
    have h2 := nodup_sub hk.1 (keys_sub fun x => (h x).symm)
    simp only [List.length_map] at h1 h2
    rw [kvs_length, kvs_length]
    omega
  · obtain ⟨q, hq, rfl⟩ := List.mem_map.mp hp
    refine ⟨by show valV (kvs k) (.inr q.1) = _; rw [valV_kvs, ← h, nget_of_mem hm.1 hq]; rfl, ?_⟩
    cases q.2 <;> rfl
def sp_State_stand (c : CA) : Sp := fun vs H Q _ => ∃ (o na sk sd : Addr) (s : MS) (p : Nat), vs = [.ref o, .int (p : Nat)] ∧ StAt c H o na sk sd s ∧ ∀ H', StAt c H' o na sk sd { s with place := p } → Fr [o] H H' → Q .non H'
theorem len_State_stand {c : CA} (vs : List V) (H : Hp) (Q : VK) (E : XK) (h : sp_State_stand c vs H Q E) : vs.length = 2 := by
  obtain ⟨_, _, _, _, _, _, rfl, _⟩ := h
  rfl
def sp_L_is_there (c : CA) : Sp := fun vs H Q _ => ∃ (o na sk sd d nb hb sb : Addr) (s t : MS), vs = [.ref d, .ref o] ∧ StAt c H o na sk sd s ∧ LsAt H d nb hb sb t ∧ s.ok ∧ t.ok ∧ (t.place = s.place → t.left = s.left → SameS t s) ∧ Q (.bl (decide (t.place = s.place ∧ t.left = s.left))) H
theorem len_L_is_there {c : CA} (vs : List V) (H : Hp) (Q : VK) (E : XK) (h : sp_L_is_there c vs H Q E) : vs.length = 2 := by
  obtain ⟨_, _, _, _, _, _, _, _, _, _, rfl, _⟩ := h
  rfl
/-! keys that are places below n -/
def KLt (n : Nat) (ks : List (Key × V)) : Prop := (ks.map (·.1)).Nodup ∧ ∀ k ∈ ks.map (·.1), ∃ p, p < n ∧ k = nK p
theorem KLt.nil (n : Nat) : KLt n [] := ⟨by simp, fun k hk => (by cases hk)⟩
theorem KLt.mono {n m : Nat} {ks : List (Key × V)} (h : KLt n ks) (hm : n ≤ m) : KLt m ks := ⟨h.1, fun k hk => by
  obtain ⟨p, h1, h2⟩ := h.2 k hk
  exact ⟨p, by omega, h2⟩⟩
theorem KLt.len {n : Nat} {ks : List (Key × V)} (h : KLt n ks) : ks.length ≤ n := by
  have := nodup_sub (k := (List.range n).map nK) h.1 fun k hk => by
    obtain ⟨p, h1, rfl⟩ := h.2 k hk
    exact List.mem_map_of_mem (List.mem_range.mpr h1)
  simpa using this
theorem KLt.put {n p : Nat} {ks : List (Key × V)} {v : V} (h : KLt n ks) (hp : p < n) : KLt n (putK ks (Sum.inl ((p : Nat) : Int)) v) := by
  show KLt n (putK ks (nK p) v)
  unfold KLt putK
  split
  · have e : (ks.map fun kv => if kv.1 = nK p then (kv.1, v) else kv).map (·.1) = ks.map (·.1) := by
      rw [List.map_map]
      congr 1
      funext q
      by_cases h : q.1 = nK p <;> simp [h]
    rw [e]
    exact h
  · next e =>
    have nm : nK p ∉ ks.map (·.1) := fun z => by
      obtain ⟨q, hq, eq⟩ := List.mem_map.mp z
      exact e (List.any_eq_true.mpr ⟨q, hq, by simpa using eq⟩)
    rw [List.map_append]
    refine ⟨?_, fun k hk => ?_⟩
    · rw [List.nodup_append]; exact ⟨h.1, by simp, fun a ha b hb z => nm (by rw [List.mem_singleton.mp hb] at z; have z' : a = nK p := z; rw [← z']; exact ha)⟩
    · rcases List.mem_append.mp hk with hk | hk
      · exact h.2 k hk
      · exact ⟨p, hp, List.mem_singleton.mp hk⟩
theorem KLt.drop {n : Nat} {ks : List (Key × V)} (h : KLt n ks) (k : Key) : KLt n (dropK ks k) := by
  have sub : ((dropK ks k).map (·.1)).Sublist (ks.map (·.1)) := (List.filter_sublist ..).map _
  exact ⟨h.1.sublist sub, fun j hj => h.2 j (sub.subset hj)⟩
def DLt (H : Hp) (a : Addr) (n : Nat) : Prop := ∃ ks, H a = some (.dK ks) ∧ KLt n ks
theorem DLt.keep {H H' : Hp} {a : Addr} {n : Nat} {S : List Addr} (h : DLt H a n) (f : Fr S H H') (hs : a ∉ S) : DLt H' a n := by
  obtain ⟨ks, h1, h2⟩ := h
  exact ⟨ks, f.keep _ _ h1 hs, h2⟩
def sp_L_guesses : Sp := fun vs H Q _ => ∃ (b l : Addr) (vc : V) (code : List Rw), vs = [.ref b, vc] ∧ BoxAt H b l ∧ Tp H (rowsD code) vc ∧ code.length < 1000000 ∧
  ∀ t ka wa gk gw H', H' t = some (.tup [.ref ka, .ref wa]) → KinAt H' ka gk → WayAt H' wa gw → BoxAt H' b l → H ka = none → H wa = none → ka ≠ wa → Fr [b, l] H H' → DLt H' ka code.length → DLt H' wa code.length → Q (.ref t) H'
theorem len_L_guesses (vs : List V) (H : Hp) (Q : VK) (E : XK) (h : sp_L_guesses vs H Q E) : vs.length = 2 := by
  obtain ⟨_, _, _, _, rfl, _⟩ := h
  rfl
/-- State.stand -/
def t_State_stand (K : PySem.W.Frag) (c : CA) : TS :=
  (xSet c.state (tVar 0) (tVar 1) ("place" : Str))

/-- _law_is_there from 1 -/
def t_L_is_there_1 (K : PySem.W.Frag) (c : CA) : TS :=
  (tSeq (tIfS (tOr (tNot (tB (tCall (sp_L_alike 40) [] E0 (tCons (xFld c.state (tVar 1) ("stack" : Str)) (tCons (tOp rGetS (tVar 0) (tC (.str (wd 32)))) tNil))))) (tNot (tB (tCall (sp_L_alike 40) [] E0 (tCons (xFld c.state (tVar 1) ("said" : Str)) (tCons (tOp rGetS (tVar 0) (tC (.str (wd 34)))) tNil)))))) (tRet (tC (.bl false))) tNext)
    (tRet (tOp rEqDD (xFld c.state (tVar 1) ("names" : Str)) (tOp rGetS (tVar 0) (tC (.str (wd 31)))))))

/-- _law_is_there -/
def t_L_is_there (K : PySem.W.Frag) (c : CA) : TS :=
  tSeq (tIfS (tOr (tTest (tOp rNe (tOp rGetS (tVar 0) (tC (.str (wd 30)))) (xFld c.state (tVar 1) ("place" : Str)))) (tOr (tTest (tOp rNe (tOp rGetS (tVar 0) (tC (.str (wd 33)))) (xFld c.state (tVar 1) ("left" : Str)))) (tTest (tOp (rNeD K) (tOp rGetS (tVar 0) (tC (.str (wd 35)))) (xFld c.state (tVar 1) ("last" : Str)))))) (tRet (tC (.bl false))) tNext) (t_L_is_there_1 K c)

/-- _law_guesses from 2 -/
def t_L_guesses_2 (K : PySem.W.Frag) : TS :=
  (tSeq (tFor (iRng1 (tCons (tCB rLenT (tCons (tVar 1) tNil)) tNil)) (gName 4)
    (tSeq (tIfS (tAnd (tTest (tOp (rInT false) (tOp rXT (tOp rXT (tVar 1) (tVar 4)) (tC (.int 0))) (xTup (tCons (tC (.str (wd 3))) (tCons (tC (.str (wd 4))) (tCons (tC (.str (wd 5))) tNil)))))) (tTest (tOp (rI0 fun i j => .bl (decide (j < i))) (tCall sp_L_take [] E0 (tCons (tVar 0) (tCons (tC (.int 5)) tNil))) (tC (.int 0))))) (xPutI (tVar 2) (tVar 4) (xTup (tCons (tOp rIxS (tC (.str ("nntn" : Str))) (tCall sp_L_take [] E0 (tCons (tVar 0) (tCons (tC (.int 4)) tNil)))) (tCons (tOp rIxS (tC (.str ("nntn" : Str))) (tCall sp_L_take [] E0 (tCons (tVar 0) (tCons (tC (.int 4)) tNil)))) tNil)))) tNext)
    (tIfS (tAnd (tTest (tOp rEq (tOp rXT (tOp rXT (tVar 1) (tVar 4)) (tC (.int 0))) (tC (.str (wd 9))))) (tTest (tOp (rI0 fun i j => .bl (decide (j < i))) (tCall sp_L_take [] E0 (tCons (tVar 0) (tCons (tC (.int 5)) tNil))) (tC (.int 0))))) (xPutI (tVar 3) (tVar 4) (tOp (rI0 fun i j => .bl (decide (j < i))) (tCall sp_L_take [] E0 (tCons (tVar 0) (tCons (tC (.int 3)) tNil))) (tC (.int 0)))) tNext)))
    (tRet (xTup (tCons (tVar 2) (tCons (tVar 3) tNil)))))

/-- _law_guesses from 1 -/
def t_L_guesses_1 (K : PySem.W.Frag) : TS :=
  tSeq (tAsg xDic (gName 3)) (t_L_guesses_2 K)

/-- _law_guesses -/
def t_L_guesses (K : PySem.W.Frag) : TS :=
  tSeq (tAsg xDic (gName 2)) (t_L_guesses_1 K)

theorem rd_State_stand {K : PySem.W.Frag} {c : CA} {vs : List V} {H : Hp} {Q : VK} {E : XK} (h : sp_State_stand c vs H Q E) : t_State_stand K c { nx := fun _ H' => Q .non H', rt := Q } (start ["_", "_"] vs) H := by
  obtain ⟨o, na, sk, sd, s, p, rfl, ⟨⟨dx, la, ho, hla⟩, hna, hsk, hsd, ne⟩, k⟩ := h
  show t_State_stand K c _ [some (.ref o), some (.int (p : Nat))] H
  unfold t_State_stand
  push_cast [ho]
  refine ⟨st_len, fun H1 M1 => ?_⟩
  replace hna := M1.k hna (ne_of hna ho (by simp)); replace hsk := M1.k hsk (ne_of hsk ho (by simp)); replace hsd := M1.k hsd (ne_of hsd ho (by simp)); replace ho := M1.at_
  rw [sp_place] at ho
  exact k H1 ⟨⟨dx, la, ho, hla.tups M1.tu⟩, hna, hsk, hsd, ne⟩ (M1.fr (by simp))
theorem Tp.dp_last {K : PySem.W.Frag} {H : Hp} {l : Option Ls} {v : V} (h : Tp H (lastD l) v) : Dp K H v (lastD l) := by
  cases l with
  | none => cases h; exact .non
  | some l =>
    cases l with
    | done =>
      simp only [lastD, Ls.d, tp_tup, tpl_cons, tpl_nil, tp_str] at h
      obtain ⟨a, xs, rfl, ha, _, r, rfl, rfl, rfl⟩ := h
      exact .tup (SqT.of ha) (.cons (.str _) .nil)
    | dry =>
      simp only [lastD, Ls.d, tp_tup, tpl_cons, tpl_nil, tp_str] at h
      obtain ⟨a, xs, rfl, ha, _, r, rfl, rfl, rfl⟩ := h
      exact .tup (SqT.of ha) (.cons (.str _) .nil)
    | mixed p =>
      simp only [lastD, Ls.d, tp_tup, tpl_cons, tpl_nil, tp_str, tp_int] at h
      obtain ⟨a, xs, rfl, ha, _, r, rfl, rfl, _, r2, rfl, rfl, rfl⟩ := h
      exact .tup (SqT.of ha) (.cons (.str _) (.cons (.int _) .nil))
theorem last_eqv (l : Option Ls) : PyData.eqv (lastD l) (lastD l) = true ∧ SeqAt.shaped (lastD l) = true := by
  cases l with
  | none => exact ⟨rfl, rfl⟩
  | some l =>
    cases l with
    | done => exact ⟨by decide +kernel, by decide +kernel⟩
    | dry => exact ⟨by decide +kernel, by decide +kernel⟩
    | mixed p =>
      refine ⟨?_, ?_⟩
      · simp [lastD, Ls.d, PyData.eqv, PyData.eqvAll]
      · simp [lastD, Ls.d, SeqAt.shaped, PyData.canLay0, PyData.canLayAll0, PyData.depth, PyData.depthAll]
        decide +kernel
theorem rd_L_is_there {K : PySem.W.Frag} {c : CA} {vs : List V} {H : Hp} {Q : VK} {E : XK} (h : sp_L_is_there c vs H Q E) : t_L_is_there K c { nx := fun _ H' => Q .non H', rt := Q } (start ["_", "_"] vs) H := by
  obtain ⟨o, na, sk, sd, d, nb, hb, sb, s, t, rfl, S, L, oks, okt, hs, k⟩ := h
  show t_L_is_there K c _ [some (.ref d), some (.ref o)] H
  obtain ⟨⟨dx, la, ho, hla⟩, hna, hsk, hsd, ne⟩ := S
  obtain ⟨⟨lb, hd, hlb⟩, hnb, hhb, hsb, ne2⟩ := L
  obtain ⟨d1, r1, e1, g1⟩ := rp_vls hsk
  obtain ⟨d2, r2, e2, g2⟩ := rp_vls hsd
  unfold t_L_is_there; refine st_seq ?_
  push_cast [ho, st_place, hd, ls_place, Int.natCast_inj]
  by_cases h1 : t.place = s.place
  · by_cases h2 : t.left = s.left
    · obtain ⟨q1, q2, q3, q4, q5, q6⟩ := hs h1 h2
      rw [q5] at hlb
      rw [q2] at hhb
      rw [q4] at hsb
      rw [decide_eq_true ⟨h1, h2⟩] at k
      push_cast [h1, h2, ho, hd, st_left, ls_left, st_last, ls_last, rNeD]
      refine ⟨_, hlb.dp_last, _, hla.dp_last, (last_eqv _).2, (last_eqv _).2, ?_⟩
      push_cast [(last_eqv s.last).1]
      unfold t_L_is_there_1; refine st_seq ?_
      push_cast [ho, hd, st_stack, ls_half]
      refine ⟨_, _, d1, rfl, r1, g1 _ hhb, by omega, ?_⟩
      push_cast [ho, hd, st_said, ls_said]
      refine ⟨_, _, d2, rfl, r2, g2 _ hsb, by omega, ?_⟩
      push_cast [ho, st_names, hd, ls_names, rEqDD, hna, hnb]
      exact ⟨eqK_of oks.nm okt.nm fun x => (q6 x).symm, k⟩
    · rw [decide_eq_false fun z => h2 z.2] at k
      push_cast [h1, h2, ho, hd, st_left, ls_left]
      exact k
  · rw [decide_eq_false fun z => h1 z.1] at k
    push_cast [h1, ho, hd]
    exact k
/-! ### guesses -/
theorem valV_nK (ks : List (Key × V)) (i j : Nat) (v : V) : valV (putK ks (Sum.inl ((i : Nat) : Int)) v) (nK j) = if j = i then some v else valV ks (nK j) := by
  have h := valV_put ks (nK i) (nK j) v
  refine Eq.trans h ?_
  by_cases e : j = i
  · subst e; simp
  · rw [if_neg e, if_neg (fun z => e (nK_inj _ _ z))]
theorem ka_put {H H' : Hp} {a p : Addr} {gk : Nat → Option (Kd × Kd)} {i : Nat} {x y : Kd} {ks : List (Key × V)} (h : KinAt H a gk) (ha : H a = some (.dK ks)) (ht : H p = some (.tup [.str x.s, .str y.s])) (M : Mu H a (.dK (putK ks (Sum.inl ((i : Nat) : Int)) (.ref p))) H') : KinAt H' a fun j => if j = i then some (x, y) else gk j := by
  obtain ⟨ks', h1, h2⟩ := h.dic
  rw [ha] at h1
  cases h1
  refine ⟨_, M.at_, fun j => ?_⟩
  rw [valV_nK]
  by_cases hj : j = i
  · subst hj
    refine ⟨fun z => absurd z (by simp), fun x' y' z => ?_⟩
    rw [if_pos rfl] at z
    cases z
    refine ⟨.ref p, by rw [if_pos rfl], ?_⟩
    simp only [tp_tup, tpl_cons, tpl_nil, tp_str]
    exact ⟨p, _, rfl, M.tu _ _ ht, _, _, rfl, rfl, _, _, rfl, rfl, rfl⟩
  · rw [if_neg hj, if_neg hj]
    refine ⟨(h2 j).1, fun x' y' z => ?_⟩
    obtain ⟨v, h3, h4⟩ := (h2 j).2 x' y' z
    exact ⟨v, h3, h4.tups M.tu⟩
theorem wa_put {H H' : Hp} {a : Addr} {gw : Nat → Option Bool} {i : Nat} {b : Bool} {ks : List (Key × V)} (h : WayAt H a gw) (ha : H a = some (.dK ks)) (M : Mu H a (.dK (putK ks (Sum.inl ((i : Nat) : Int)) (.bl b))) H') : WayAt H' a fun j => if j = i then some b else gw j := by
  obtain ⟨ks', h1, h2⟩ := h.dic
  rw [ha] at h1
  cases h1
  refine ⟨_, M.at_, fun j => ?_⟩
  rw [valV_nK]
  by_cases h : j = i
  · rw [if_pos h, if_pos h]; rfl
  · rw [if_neg h, if_neg h]; exact h2 j
theorem nntn {r : Int} (h0 : 0 ≤ r) (h1 : r < 4) : ∃ (k : Kd) (c : Nat), atI (Str.ofString "nntn").cps.toList r = some c ∧ k.s = ⟨#[c]⟩ := by
  have hr : r = 0 ∨ r = 1 ∨ r = 2 ∨ r = 3 := by omega
  rcases hr with rfl | rfl | rfl | rfl
  · exact ⟨.n, 110, by decide +kernel, by decide +kernel⟩
  · exact ⟨.n, 110, by decide +kernel, by decide +kernel⟩
  · exact ⟨.t, 116, by decide +kernel, by decide +kernel⟩
  · exact ⟨.n, 110, by decide +kernel, by decide +kernel⟩
def Rw.wx : Rw → Str
  | .num _ => wd 0
  | .text _ => wd 1
  | .name _ => wd 2
  | .op g => g.s
  | .say => wd 7
  | .set _ => wd 8
  | .unless _ => wd 9
  | .go _ => wd 10
  | .top => wd 11
  | .fin => wd 12
theorem tp_rw {H : Hp} {r : Rw} {v : V} (h : Tp H r.d v) : ∃ p ys, v = .ref p ∧ H p = some (.tup (.str r.wx :: ys)) := by
  have go : ∀ (w : Str) (ds : List PyData), Tp H (.tuple (.str w :: ds)) v → ∃ p ys, v = .ref p ∧ H p = some (.tup (.str w :: ys)) := by
    intro w ds h
    rw [tp_tup] at h
    obtain ⟨p, xs, rfl, hp, hx⟩ := h
    rw [tpl_cons] at hx
    obtain ⟨y, ys, rfl, hy, _⟩ := hx
    rw [tp_str] at hy
    subst hy
    exact ⟨p, ys, rfl, hp⟩
  cases r <;> exact go _ _ h
theorem st_seqP {a b : TS} {D : L2.Ends} {σ : L2.St} {H : Hp} (h : ∀ P : L2.St → Hp → Prop, (∀ σ' H', b D σ' H' → P σ' H') → a { D with nx := P } σ H) : tSeq a b D σ H := st_seq (h (b D) fun _ _ h => h)
theorem putK_length (ks : List (Key × V)) (k : Key) (v : V) : (putK ks k v).length ≤ ks.length + 1 := by
  unfold putK
  split
  · simp
  · simp
def GInv (H0 : Hp) (b l ka wa : Addr) (vc : V) (code : List Rw) (n : Nat) (i : Nat) (σ : L2.St) (H : Hp) : Prop := ∃ (σ4 : Option V) (gk : Nat → Option (Kd × Kd)) (gw : Nat → Option Bool) (ks ws : List (Key × V)), σ = [some (.ref b), some vc, some (.ref ka), some (.ref wa), σ4] ∧ BoxAt H b l ∧ Tp H (rowsD code) vc ∧ KinAt H ka gk ∧ WayAt H wa gw ∧ H ka = some (.dK ks) ∧ H wa = some (.dK ws) ∧ KLt i ks ∧ KLt i ws ∧ Fr [b, l] H0 H
theorem rd_L_guesses {K : PySem.W.Frag} {vs : List V} {H : Hp} {Q : VK} {E : XK} (h : sp_L_guesses vs H Q E) : t_L_guesses K { nx := fun _ H' => Q .non H', rt := Q } (start ["_", "_", "_", "_", "_"] vs) H := by
  obtain ⟨b, l, vc, code, rfl, B, tc, hl, k⟩ := h
  show t_L_guesses K _ [some (.ref b), some vc, none, none, none] H
  unfold t_L_guesses; refine st_seq ?_
  push_cast
  intro ka H1 A1
  have B1 := B.keep A1.fr
  replace tc := tc.tups A1.tu
  have hka := A1.at_
  unfold t_L_guesses_1; refine st_seq ?_
  push_cast
  intro wa H2 A2
  have B2 := B1.keep A2.fr
  replace tc := tc.tups A2.tu
  replace hka := A2.k hka
  have hwa := A2.at_
  unfold t_L_guesses_2; refine st_seq ?_
  have lc : code.length = code.length := rfl
  obtain ⟨va, vs', rfl, hva, tvs⟩ : ∃ a xs, vc = .ref a ∧ H2 a = some (.tup xs) ∧ TpL H2 (code.map Rw.d) xs := by
    unfold rowsD at tc
    rw [tp_tup] at tc
    exact tc
  have ln : vs'.length = code.length := by rw [tvs.length, List.length_map]
  have nka : H ka = none := A1.new
  have nwa : H wa = none := A1.fr (S := []) |>.free A2.new (by simp)
  have kw : ka ≠ wa := fun e => ne_of_none A1.at_ A2.new e
  have K0 : KinAt H2 ka fun _ => none := ⟨_, hka, fun p => ⟨fun _ => rfl, fun _ _ z => by cases z⟩⟩
  have W0 : WayAt H2 wa fun _ => none := ⟨_, hwa, fun p => rfl⟩
  refine forR (n := (code.length : Int)) (fun R h => by push_cast [hva, ln]; exact h) (by omega) (by omega) (GInv H b l ka wa (.ref va) code code.length) ⟨none, _, _, [], [], rfl, B2, tc, K0, W0, hka, hwa, .nil _, .nil _, (A1.fr.al A2)⟩ ?_ ?_
  · rintro i σ H3 hi ⟨σ4, gk, gw, ks, ws, rfl, B3, tc3, K3, W3, hk3, hw3, lk, lw, f3⟩
    obtain ⟨rws, hca, trs⟩ : ∃ xs, H3 va = some (.tup xs) ∧ TpL H3 (code.map Rw.d) xs := by
      have t := tc3
      unfold rowsD at t
      rw [tp_tup] at t
      obtain ⟨a, xs, e, h1, h2⟩ := t
      cases e
      exact ⟨xs, h1, h2⟩
    have hi' : i < code.length := by omega
    obtain ⟨y, hy, ty⟩ := trs.get (i := i) (d := code[i].d) (by rw [List.getElem?_map, List.getElem?_eq_getElem hi']; rfl)
    obtain ⟨ra, ys, rfl, hra⟩ := tp_rw ty
    have hix := atI_nat hy
    have oka := B.off nka
    have owa := B.off nwa
    show tSeq _ _ _ [some (.ref b), some (.ref va), some (.ref ka), some (.ref wa), some (.int (i : Nat))] H3
    refine st_seqP fun P hP => ?_
    have second : ∀ (gk : Nat → Option (Kd × Kd)) (ks : List (Key × V)) (H4 : Hp), BoxAt H4 b l → KinAt H4 ka gk → H4 ka = some (.dK ks) → KLt (i + 1) ks → WayAt H4 wa gw → H4 wa = some (.dK ws) → Tups H3 H4 → Fr [b, l] H H4 → P [some (.ref b), some (.ref va), some (.ref ka), some (.ref wa), some (.int (i : Nat))] H4 := by
      intro gk ks H4 B4 K4 hk4 l4 W4 hw4 t4 f4
      refine hP _ _ ?_
      have tc4 := tc3.tups t4
      push_cast [t4 _ _ hca, hix, t4 _ _ hra]
      by_cases hw : code[i].wx = wd 9
      · rw [if_pos hw]
        refine ⟨b, l, 5, rfl, B4, by decide, by decide, fun r H5 r0 r1 B5 f5 => ⟨r, rfl, ?_⟩⟩
        have K5 := K4.keep f5 oka
        have W5 := W4.keep f5 owa
        have hk5 := f5.keep _ _ hk4 oka
        have hw5 := f5.keep _ _ hw4 owa
        by_cases hr : 0 < r
        · rw [if_pos hr]
          refine ⟨b, l, 3, rfl, B5, by decide, by decide, fun q H6 q0 q1 B6 f6 => ?_⟩
          have K6 := K5.keep f6 oka
          have W6 := W5.keep f6 owa
          have hk6 := f6.keep _ _ hk5 oka
          have hw6 := f6.keep _ _ hw5 owa
          push_cast [hw6]
          refine ⟨bigL (by have := lw.len; omega), fun H7 M7 => ?_⟩
          refine ⟨_, gk, _, ks, _, rfl, B6.mu M7 owa, ((tc4.tups f5.tu).tups f6.tu).tups M7.tu, K6.keep (M7.fr (S := [wa]) (by simp)) (by simp [kw]), wa_put W6 hw6 M7, M7.k hk6 kw, M7.at_, l4, (lw.mono (Nat.le_succ _)).put (Nat.lt_succ_self _), (f4.trans (f5.trans f6)).muN M7 nwa⟩
        · rw [if_neg hr]
          exact ⟨_, gk, gw, ks, ws, rfl, B5, tc4.tups f5.tu, K5, W5, hk5, hw5, l4, lw.mono (Nat.le_succ _), f4.trans f5⟩
      · rw [if_neg hw]
        exact ⟨_, gk, gw, ks, ws, rfl, B4, tc4, K4, W4, hk4, hw4, l4, lw.mono (Nat.le_succ _), f4⟩
    push_cast [hca, hix, hra]
    refine ⟨(by simp only [List.length_cons, List.length_nil]; decide), fun q H4 A4 => ⟨_, A4.at_, rfl, ?_⟩⟩
    have B4 := B3.keep A4.fr
    have K4 := K3.keep (A4.fr (S := [])) (by simp)
    have W4 := W3.keep (A4.fr (S := [])) (by simp)
    replace hk3 := A4.k hk3
    replace hw3 := A4.k hw3
    have f4 : Fr [b, l] H H4 := f3.al A4
    cases hin : inV (V.str code[i].wx) [V.str (wd 3), V.str (wd 4), V.str (wd 5)] with
    | false =>
      rw [if_neg (by decide)]
      exact second gk ks H4 B4 K4 hk3 (lk.mono (Nat.le_succ _)) W4 hw3 A4.tu f4
    | true =>
      rw [if_pos rfl]
      refine ⟨b, l, 5, rfl, B4, by decide, by decide, fun r H5 r0 r1 B5 f5 => ⟨r, rfl, ?_⟩⟩
      have K5 := K4.keep f5 oka
      have W5 := W4.keep f5 owa
      have hk5 := f5.keep _ _ hk3 oka
      have hw5 := f5.keep _ _ hw3 owa
      have t5 : Tups H3 H5 := fun a xs h => f5.tu _ _ (A4.tu _ _ h)
      by_cases hr : 0 < r
      · rw [if_pos hr]
        refine ⟨b, l, 4, rfl, B5, by decide, by decide, fun q1 H6 g0 g1 B6 f6 => ?_⟩
        obtain ⟨k1, c1, n1, n1'⟩ := nntn g0 g1
        refine ⟨q1, rfl, by decide +kernel, c1, n1, b, l, 4, rfl, B6, by decide, by decide, fun q2 H7 g2 g3 B7 f7 => ?_⟩
        obtain ⟨k2, c2, n2, n2'⟩ := nntn g2 g3
        refine ⟨q2, rfl, by decide +kernel, c2, n2, (by simp only [List.length_cons, List.length_nil]; decide), fun p H8 A8 => ?_⟩
        have f78 : Fr [b, l] H5 H8 := (f6.trans f7).al A8
        have K8 := K5.keep f78 oka
        have W8 := W5.keep f78 owa
        have hk8 := f78.keep _ _ hk5 oka
        have hw8 := f78.keep _ _ hw5 owa
        have hp8 : H8 p = some (.tup [.str k1.s, .str k2.s]) := by rw [n1', n2']; exact A8.at_
        refine ⟨ks, hk8, bigL (by have := lk.len; omega), fun H9 M9 => ?_⟩
        exact second _ _ H9 ((B7.keep A8.fr).mu M9 oka) (ka_put K8 hk8 hp8 M9) M9.at_ ((lk.mono (Nat.le_succ _)).put (Nat.lt_succ_self _)) (W8.keep (M9.fr (S := [ka]) (by simp)) (by simp [kw.symm])) (M9.k hw8 kw.symm) (fun a xs h => M9.tu _ _ (f78.tu _ _ (t5 _ _ h))) (((f4.trans f5).trans f78).muN M9 nka)
      · rw [if_neg hr]
        exact second gk ks H5 B5 K5 hk5 (lk.mono (Nat.le_succ _)) W5 hw5 t5 (f4.trans f5)
  · rintro σ H3 ⟨σ4, gk, gw, ks, ws, rfl, B3, tc3, K3, W3, hk3, hw3, lk, lw, f3⟩
    push_cast
    try refine ⟨(by simp only [List.length_cons, List.length_nil]; decide), ?_⟩
    intro t H4 A4
    exact k t ka wa gk gw H4 A4.at_ (K3.keep (A4.fr (S := [])) (by simp)) (W3.keep (A4.fr (S := [])) (by simp)) (B3.keep A4.fr) nka nwa kw (f3.al A4) ⟨ks, A4.k hk3, lk⟩ ⟨ws, A4.k hw3, lw⟩

/-! more rules: x in a list, extend -/
def rInL (neg : Bool) : R2 := fun x y H Q => ∃ p xs, y = .ref p ∧ H p = some (.lst xs) ∧ flatV x = true ∧ xs.all flatV = true ∧ Q (.bl (if neg then !inV x xs else inV x xs)) H
def xExt (to te : TE) : TE := fun σ H Q => to σ H fun x H1 => ∃ l xs', x = .ref l ∧ H1 l = some (.lst xs') ∧ te σ H1 fun y H2 => ∃ b xs zs, y = .ref b ∧ H2 l = some (.lst xs) ∧ H2 b = some (.lst zs) ∧ xs.length + zs.length ≤ sizeLine ∧ ∀ H', Mu H2 l (.lst (xs ++ zs)) H' → Q .non H'
section
variable {X : Cx} {o e : Expr} {to te : TE} {apos cpos : Pos}
theorem op_inL : OpR X (compareOp .In) (rInL false) := opM op_in_seq fun _ _ _ _ ⟨p, xs, e, h, h1, h2, q⟩ => ⟨p, xs, e, .inl (SqL.of h), h1, h2, q⟩
theorem op_ninL : OpR X (compareOp .NotIn) (rInL true) := opM op_notIn_seq fun _ _ _ _ ⟨p, xs, e, h, h1, h2, q⟩ => ⟨p, xs, e, .inl (SqL.of h), h1, h2, q⟩
theorem pe_ext (ho : PE X o to) (he : PE X e te) (hbase : attributeBase o "extend" X.env (eval o X.env) = eval o X.env := by rfl)
    (hfew : ((backTo cpos (starEach (e :: []) X.env)).all (fun x => !x.1) && (backToKw cpos (keywordEach [] X.env)).all (fun x => x.1.isSome)
      && decide ((e :: ([] : List Expr)).length + ([] : List Keyword).length + (if ([] : List Keyword).isEmpty then 0 else 1) < 30)) = true := by rfl)
    (hline : (apos.endLine == cpos.line) = true := by rfl) (hs : starEach (e :: []) X.env = (false, eval e X.env) :: starEach [] X.env := by rfl) (hplain : (backTo cpos (starEach ([] : List Expr) X.env)).any (·.1) = false := by rfl) :
    PE X (.Call (.Attribute o "extend" apos) [e] [] cpos) (xExt to te) := by
  refine peM (pe_bm PySem.F.plainAttrs_list PySem.F.slot_list_extend PySem.F.type_list_extend mt_extend (mo ho) (pa_cons (mo he) pa_nil hs) hbase hfew hline hs hplain) ?_
  intro σ H Q h
  refine ⟨_, h, ?_⟩
  rintro x H1 ⟨l, xs', rfl, h1, h⟩
  refine ⟨Or.inl ⟨rfl, _, SqL.of h1⟩, _, h, ?_⟩
  rintro y H2 ⟨b, xs, zs, rfl, h2, h3, hz, q⟩
  exact ⟨l, b, xs, zs, rfl, rfl, h2, h3, hz, q _ (.of h2 fun _ z => by cases z)⟩
end

/-! the law's own maker: promises -/
structure LA where
  d : Addr
  ra : Addr
  wa : Addr
  ca : Addr
  ha : Addr
  na : Addr
def LA.fp (A : LA) : List Addr := [A.d, A.ra, A.wa, A.ca, A.ha, A.na]
def lmK (A : LA) (many : Nat) : List (Key × V) := [(.inr (wd 36), .ref A.ra), (.inr (wd 37), .int (many : Nat)), (.inr (wd 38), .ref A.wa), (.inr (wd 8), .ref A.ca), (.inr (wd 32), .ref A.ha), (.inr (wd 39), .ref A.na)]
section
variable {A : LA} {n : Nat} {ha' : Addr}
theorem lm_rows : valV (lmK A n) (.inr (wd 36)) = some (.ref A.ra) := rfl
theorem lm_many : valV (lmK A n) (.inr (wd 37)) = some (.int (n : Nat)) := rfl
theorem lm_slots : valV (lmK A n) (.inr (wd 38)) = some (.ref A.wa) := rfl
theorem lm_set : valV (lmK A n) (.inr (wd 8)) = some (.ref A.ca) := rfl
theorem lm_half : valV (lmK A n) (.inr (wd 32)) = some (.ref A.ha) := rfl
theorem lm_kinds : valV (lmK A n) (.inr (wd 39)) = some (.ref A.na) := rfl
theorem lmp_many : putK (lmK A n) (.inr (wd 37)) (.int ((n : Nat) + 1)) = lmK A (n + 1) := rfl
theorem lmp_half : putK (lmK A n) (.inr (wd 32)) (.ref ha') = lmK { A with ha := ha' } n := rfl
theorem lm_len : (lmK A n).length < sizeLine := by show 6 < sizeLine; decide
end
structure LmAt (H : Hp) (A : LA) (m : Mk) : Prop where
  dic : H A.d = some (.dK (lmK A m.many))
  rows : ∃ xs, H A.ra = some (.lst xs) ∧ TpL H (m.rows.map Qr.d) xs
  whr : H A.wa = some (.dK (kvG sK nV m.whr))
  chg : H A.ca = some (.dK (kvG sK V.bl m.chg))
  half : H A.ha = some (.lst (m.hf.reverse.map nV))
  known : H A.na = some (.dK (kvG nK kdV m.known))
  ne1 : A.ra ≠ A.ha
  ne2 : A.wa ≠ A.ca
  ne3 : A.wa ≠ A.na
  ne4 : A.ca ≠ A.na
  ne5 : A.d ≠ A.wa
  ne6 : A.d ≠ A.ca
  ne7 : A.d ≠ A.na
theorem LmAt.keep {H H' : Hp} {A : LA} {m : Mk} {S : List Addr} (h : LmAt H A m) (f : Fr S H H') (d : Disj A.fp S) : LmAt H' A m := by
  obtain ⟨h1, ⟨xs, h2, t2⟩, h3, h4, h5, h6, n1, n2, n3, n4, n5, n6, n7⟩ := h
  exact ⟨f.keep _ _ h1 (d _ (by simp [LA.fp])), ⟨xs, f.keep _ _ h2 (d _ (by simp [LA.fp])), t2.tups f.tu⟩, f.keep _ _ h3 (d _ (by simp [LA.fp])), f.keep _ _ h4 (d _ (by simp [LA.fp])), f.keep _ _ h5 (d _ (by simp [LA.fp])), f.keep _ _ h6 (d _ (by simp [LA.fp])), n1, n2, n3, n4, n5, n6, n7⟩
theorem LmAt.keep0 {H H' : Hp} {A : LA} {m : Mk} (h : LmAt H A m) (f : Fr [] H H') : LmAt H' A m := h.keep f fun _ _ z => by cases z
theorem LmAt.there {H : Hp} {A : LA} {m : Mk} (h : LmAt H A m) : ∀ x ∈ A.fp, H x ≠ none := by
  obtain ⟨h1, ⟨xs, h2, _⟩, h3, h4, h5, h6, _⟩ := h
  intro x hx
  simp only [LA.fp, List.mem_cons, List.not_mem_nil, or_false] at hx
  rcases hx with rfl | rfl | rfl | rfl | rfl | rfl
  · rw [h1]; simp
  · rw [h2]; simp
  · rw [h3]; simp
  · rw [h4]; simp
  · rw [h5]; simp
  · rw [h6]; simp
def LNx (H : Hp) (A A' : LA) : Prop := ∃ ha', A' = { A with ha := ha' } ∧ (ha' = A.ha ∨ H ha' = none)
theorem LNx.refl (H : Hp) (A : LA) : LNx H A A := ⟨A.ha, rfl, .inl rfl⟩
theorem LNx.own {H : Hp} {A A' : LA} (n : LNx H A A') : Own H A.fp A'.fp := by
  obtain ⟨ha', rfl, h⟩ := n
  intro x hx
  simp only [LA.fp, List.mem_cons, List.not_mem_nil, or_false] at hx ⊢
  rcases hx with rfl | rfl | rfl | rfl | rfl | rfl
  · simp
  · simp
  · simp
  · simp
  · rcases h with h | h
    · simp [h]
    · simp [h]
  · simp
theorem LNx.trans {H H1 : Hp} {A A1 A2 : LA} (a : LNx H A A1) (f : Fr A.fp H H1) (th : ∀ x ∈ A1.fp, H1 x ≠ none) (b : LNx H1 A1 A2) : LNx H A A2 := by
  obtain ⟨h1, rfl, e1⟩ := a
  obtain ⟨h2, rfl, e2⟩ := b
  refine ⟨h2, rfl, ?_⟩
  rcases e2 with rfl | e2
  · exact e1
  · by_cases hz : h2 ∈ A.fp
    · simp only [LA.fp, List.mem_cons, List.not_mem_nil, or_false] at hz
      rcases hz with rfl | rfl | rfl | rfl | rfl | rfl
      · exact absurd e2 (th _ (by simp [LA.fp]))
      · exact absurd e2 (th _ (by simp [LA.fp]))
      · exact absurd e2 (th _ (by simp [LA.fp]))
      · exact absurd e2 (th _ (by simp [LA.fp]))
      · exact .inl rfl
      · exact absurd e2 (th _ (by simp [LA.fp]))
    · exact .inr (f.free e2 hz)
theorem LNx.back {H H1 : Hp} {A A' : LA} (n : LNx H1 A A') (f : Fr [] H H1) : LNx H A A' := by
  obtain ⟨h', e, h⟩ := n
  exact ⟨h', e, h.imp_right fun z => f.free z (by simp)⟩
def sp_L_exit : Sp := fun vs H Q _ => ∃ (A : LA) (m : Mk) (p : Nat), vs = [.ref A.d, .int (p : Nat)] ∧ LmAt H A m ∧ m.Ok ∧ ∀ v H', Tp H' (m.exit p).d v → Fr [] H H' → Q v H'
theorem len_L_exit (vs : List V) (H : Hp) (Q : VK) (E : XK) (h : sp_L_exit vs H Q E) : vs.length = 2 := by
  obtain ⟨_, _, _, rfl, _⟩ := h
  rfl
def Mk.newH (m : Mk) (k : Option Kd) : Mk := { m.new k with hf := m.many :: m.hf }
def sp_L_new : Sp := fun vs H Q _ => ∃ (A : LA) (m : Mk) (k : Option Kd), vs = [.ref A.d, .str (okd k)] ∧ LmAt H A m ∧ m.Ok ∧ ∀ H' A', LmAt H' A' (m.newH k) → LNx H A A' → Fr A.fp H H' → Q (.int (m.many : Nat)) H'
theorem len_L_new (vs : List V) (H : Hp) (Q : VK) (E : XK) (h : sp_L_new vs H Q E) : vs.length = 2 := by
  obtain ⟨_, _, _, rfl, _⟩ := h
  rfl
def sp_L_sign : Sp := fun vs H Q _ => ∃ (A : LA) (m : Mk) (g : Sg) (p : Nat) (ka : Addr) (gk : Nat → Option (Kd × Kd)), vs = [.ref A.d, .str g.s, .int (p : Nat), .ref ka] ∧ LmAt H A m ∧ m.Ok ∧ KinAt H ka gk ∧ ka ∉ A.fp ∧ 2 ≤ m.hf.length ∧ m.rows.length ≤ 50000 ∧
  (∀ H' A' m', m.row (gk p) p (.op g) = some m' → LmAt H' A' m' → LNx H A A' → Fr A.fp H H' → Q (.bl true) H') ∧ (∀ H', m.row (gk p) p (.op g) = none → LmAt H' A m → Fr A.fp H H' → Q (.bl false) H')
theorem len_L_sign (vs : List V) (H : Hp) (Q : VK) (E : XK) (h : sp_L_sign vs H Q E) : vs.length = 4 := by
  obtain ⟨_, _, _, _, _, _, rfl, _⟩ := h
  rfl
def sp_L_follow : Sp := fun vs H Q _ => ∃ (A : LA) (m : Mk) (vc : V) (code : List Rw) (p most : Nat) (r : Rw) (ka wa : Addr) (gk : Nat → Option (Kd × Kd)) (gw : Nat → Option Bool), vs = [.ref A.d, vc, .int (p : Nat), .ref ka, .ref wa] ∧ LmAt H A m ∧ m.Ok ∧ KinAt H ka gk ∧ WayAt H wa gw ∧ ka ∉ A.fp ∧ wa ∉ A.fp ∧ Tp H (rowsD code) vc ∧ code[p]? = some r ∧ r.need ≤ m.hf.length ∧ r.okv ∧ endsIt r = false ∧ m.rows.length < most ∧ most ≤ 40000 ∧
  (∀ H' A' m' p', fol code gk gw most m p = some (m', p') → LmAt H' A' m' → LNx H A A' → Fr A.fp H H' → Q (.int (p' : Nat)) H') ∧ (∀ H', fol code gk gw most m p = none → LmAt H' A m → Fr A.fp H H' → Q (.int (-1)) H')
theorem len_L_follow (vs : List V) (H : Hp) (Q : VK) (E : XK) (h : sp_L_follow vs H Q E) : vs.length = 5 := by
  obtain ⟨_, _, _, _, _, _, _, _, _, _, _, rfl, _⟩ := h
  rfl
def sp_L_quick : Sp := fun vs H Q _ => ∃ (vc : V) (code : List Rw) (hts : List Nat) (top most : Nat) (ka wa : Addr) (gk : Nat → Option (Kd × Kd)) (gw : Nat → Option Bool), vs = [vc, .int (top : Nat), .ref ka, .ref wa, .int (most : Nat)] ∧ Tp H (rowsD code) vc ∧ Ty code hts ∧ code[top]? = some .top ∧ most ≤ 40000 ∧
  KinAt H ka gk ∧ WayAt H wa gw ∧ ∀ v rows H', Quick code gk gw most top rows → rows.length ≤ most + 20 → Tp H' (quickD rows) v → Fr [] H H' → Q v H'
theorem len_L_quick (vs : List V) (H : Hp) (Q : VK) (E : XK) (h : sp_L_quick vs H Q E) : vs.length = 5 := by
  obtain ⟨_, _, _, _, _, _, _, _, _, rfl, _⟩ := h
  rfl
/-- _law_exit -/
def t_L_exit (K : PySem.W.Frag) : TS :=
  (tSeq (tAsg (tCB rTupL (tCons (tLc (iList K (tCB rSrtD (tCons (tOp rGetS (tVar 0) (tC (.str (wd 8)))) tNil))) (gName 3) tYes (xTup (tCons (tVar 3) (tCons (tOp rGetS (tOp rGetS (tVar 0) (tC (.str (wd 38)))) (tVar 3)) tNil))) [3]) tNil)) (gName 2))
    (tRet (xTup (tCons (tVar 1) (tCons (tVar 2) (tCons (tCB rTupL (tCons (tOp rGetS (tVar 0) (tC (.str (wd 32)))) tNil)) tNil))))))

/-- _law_new from 3 -/
def t_L_new_3 (K : PySem.W.Frag) : TS :=
  (tSeq (xPutS (tVar 0) (tC (.str (wd 32))) (tOp rCt (tOp rGetS (tVar 0) (tC (.str (wd 32)))) (xLst (tCons (tVar 2) tNil))))
    (tRet (tVar 2)))

/-- _law_new from 2 -/
def t_L_new_2 (K : PySem.W.Frag) : TS :=
  tSeq (tIfS (tTest (tOp rNe (tVar 1) (tC (.str ("" : Str))))) (xPutI (tOp rGetS (tVar 0) (tC (.str (wd 39)))) (tVar 2) (tVar 1)) tNext) (t_L_new_3 K)

/-- _law_new from 1 -/
def t_L_new_1 (K : PySem.W.Frag) : TS :=
  tSeq (xPutS (tVar 0) (tC (.str (wd 37))) (tOp (rI0 fun i j => .int (i + j)) (tVar 2) (tC (.int 1)))) (t_L_new_2 K)

/-- _law_new -/
def t_L_new (K : PySem.W.Frag) : TS :=
  tSeq (tAsg (tOp rGetS (tVar 0) (tC (.str (wd 37)))) (gName 2)) (t_L_new_1 K)

/-- _law_sign from 5 -/
def t_L_sign_5 (K : PySem.W.Frag) : TS :=
  (tSeq (tDrop (tApp (tOp rGetS (tVar 0) (tC (.str (wd 36)))) (xTup (tCons (tVar 1) (tCons (tVar 5) (tCons (tVar 9) (tCons (tOp rXL (tVar 4) (tC (.int 0))) (tCons (tOp rXL (tVar 4) (tC (.int 1))) tNil))))))))
    (tRet (tC (.bl true))))

/-- _law_sign from 4 -/
def t_L_sign_4 (K : PySem.W.Frag) : TS :=
  tSeq (tAsg (tCall sp_L_new [] E0 (tCons (tVar 0) (tCons (tOp rXL (xLst (tCons (tC (.str (wd 23))) (tCons (tC (.str (wd 24))) tNil))) (tCB rInt1 (tCons (tAndV (tOp rEq (tVar 5) (tC (.str (wd 24)))) (tOp rNe (tVar 1) (tC (.str (wd 5))))) tNil))) tNil))) (gName 9)) (t_L_sign_5 K)

/-- _law_sign from 3 -/
def t_L_sign_3 (K : PySem.W.Frag) : TS :=
  tSeq (xPutS (tVar 0) (tC (.str (wd 32))) (tSl rSL (tOp rGetS (tVar 0) (tC (.str (wd 32)))) tNoPart (tPart (tUn (rU fun i => .int (-i)) (tC (.int 2)))))) (t_L_sign_4 K)

/-- _law_sign from 2 -/
def t_L_sign_2 (K : PySem.W.Frag) : TS :=
  tSeq (tIfS (tTest (tOp rNe (tVar 1) (tC (.str (wd 6))))) (tSeq (tAsg (xGet2I (tVar 3) (tVar 2) (xTup (tCons (tC (.str ("" : Str))) (tCons (tC (.str ("" : Str))) tNil)))) (gName 6))
    (tSeq (tAsg (tLc (iRng1 (tCons (tC (.int 2)) tNil)) (gName 8) tYes (xGet2I (tOp rGetS (tVar 0) (tC (.str (wd 39)))) (tOp rXL (tVar 4) (tVar 8)) (tOp rXT (tVar 6) (tVar 8))) [8]) (gName 7))
    (tSeq (tAsg (tOp rXL (tVar 7) (tC (.int 0))) (gName 5))
    (tSeq (tIfS (tOr (tTest (tOp (rInL false) (tC (.str ("" : Str))) (tVar 7))) (tTest (tOp rNe (tOp rXL (tVar 7) (tC (.int 0))) (tOp rXL (tVar 7) (tC (.int 1)))))) (tRet (tC (.bl false))) tNext)
    (tFor (iList K (tVar 4)) (gName 9)
    (tIfS (tB (tOp (rInDI true) (tVar 9) (tOp rGetS (tVar 0) (tC (.str (wd 39)))))) (tSeq (tDrop (tApp (tOp rGetS (tVar 0) (tC (.str (wd 36)))) (xTup (tCons (tC (.str (wd 18))) (tCons (tVar 9) (tCons (tVar 5) (tCons (tCall sp_L_exit [] E0 (tCons (tVar 0) (tCons (tVar 2) tNil))) tNil)))))))
    (xPutI (tOp rGetS (tVar 0) (tC (.str (wd 39)))) (tVar 9) (tVar 5))) tNext)))))) tNext) (t_L_sign_3 K)

/-- _law_sign from 1 -/
def t_L_sign_1 (K : PySem.W.Frag) : TS :=
  tSeq (tAsg (tC (.str (wd 25))) (gName 5)) (t_L_sign_2 K)

/-- _law_sign -/
def t_L_sign (K : PySem.W.Frag) : TS :=
  tSeq (tAsg (tSl rSL (tOp rGetS (tVar 0) (tC (.str (wd 32)))) (tPart (tUn (rU fun i => .int (-i)) (tC (.int 2)))) tNoPart) (gName 4)) (t_L_sign_1 K)

/-- _law_follow from 2 -/
def t_L_follow_2 (K : PySem.W.Frag) : TS :=
  (tSeq (tIfS (tTest (tOp (rInT false) (tVar 6) (xTup (tCons (tC (.str (wd 0))) (tCons (tC (.str (wd 1))) tNil))))) (tDrop (tApp (tOp rGetS (tVar 0) (tC (.str (wd 36)))) (xTup (tCons (tVar 6) (tCons (tCall sp_L_new [] E0 (tCons (tVar 0) (tCons (tOp rIxS (tVar 6) (tC (.int 0))) tNil))) (tCons (tOp rXT (tVar 5) (tC (.int 1))) tNil)))))) (tIfS (tTest (tOp rEq (tVar 6) (tC (.str (wd 2))))) (tIfS (tB (tOp (rInDS true) (tOp rXT (tVar 5) (tC (.int 1))) (tOp rGetS (tVar 0) (tC (.str (wd 38)))))) (tSeq (xPutS (tOp rGetS (tVar 0) (tC (.str (wd 38)))) (tOp rXT (tVar 5) (tC (.int 1))) (tCall sp_L_new [] E0 (tCons (tVar 0) (tCons (tC (.str ("" : Str))) tNil))))
    (tDrop (tApp (tOp rGetS (tVar 0) (tC (.str (wd 36)))) (xTup (tCons (tC (.str (wd 17))) (tCons (tOp rGetS (tOp rGetS (tVar 0) (tC (.str (wd 38)))) (tOp rXT (tVar 5) (tC (.int 1)))) (tCons (tOp rXT (tVar 5) (tC (.int 1))) tNil))))))) (xPutS (tVar 0) (tC (.str (wd 32))) (tOp rCt (tOp rGetS (tVar 0) (tC (.str (wd 32)))) (xLst (tCons (tOp rGetS (tOp rGetS (tVar 0) (tC (.str (wd 38)))) (tOp rXT (tVar 5) (tC (.int 1)))) tNil))))) (tIfS (tTest (tOp rEq (tVar 6) (tC (.str (wd 10))))) (tRet (tOp rXT (tVar 5) (tC (.int 1)))) (tIfS (tTest (tOp (rInT false) (tVar 6) (xTup (tCons (tC (.str (wd 7))) (tCons (tC (.str (wd 8))) (tCons (tC (.str (wd 9))) tNil)))))) (tSeq (tIfS (tAnd (tTest (tOp rEq (tVar 6) (tC (.str (wd 9))))) (tB (tOp (rInDI true) (tVar 2) (tVar 4)))) (tRet (tUn (rU fun i => .int (-i)) (tC (.int 1)))) tNext)
    (tSeq (tAsg (tOp rXL (tOp rGetS (tVar 0) (tC (.str (wd 32)))) (tUn (rU fun i => .int (-i)) (tC (.int 1)))) (gName 7))
    (tSeq (xPutS (tVar 0) (tC (.str (wd 32))) (tSl rSL (tOp rGetS (tVar 0) (tC (.str (wd 32)))) tNoPart (tPart (tUn (rU fun i => .int (-i)) (tC (.int 1))))))
    (tIfS (tTest (tOp rEq (tVar 6) (tC (.str (wd 7))))) (tDrop (tApp (tOp rGetS (tVar 0) (tC (.str (wd 36)))) (xTup (tCons (tC (.str (wd 7))) (tCons (tVar 7) tNil))))) (tIfS (tTest (tOp rEq (tVar 6) (tC (.str (wd 8))))) (tSeq (xPutS (tOp rGetS (tVar 0) (tC (.str (wd 38)))) (tOp rXT (tVar 5) (tC (.int 1))) (tVar 7))
    (xPutS (tOp rGetS (tVar 0) (tC (.str (wd 8)))) (tOp rXT (tVar 5) (tC (.int 1))) (tC (.bl true)))) (tSeq (tAsg (xLst (tCons (tOp rXT (tVar 5) (tC (.int 1))) (tCons (tOp (rI0 fun i j => .int (i + j)) (tVar 2) (tC (.int 1))) tNil))) (gName 8))
    (tSeq (tAsg (tCB rInt1 (tCons (tOp rGetI (tVar 4) (tVar 2)) tNil)) (gName 9))
    (tSeq (tDrop (tApp (tOp rGetS (tVar 0) (tC (.str (wd 36)))) (xTup (tCons (tC (.str (wd 19))) (tCons (tVar 7) (tCons (tVar 9) (tCons (tCall sp_L_exit [] E0 (tCons (tVar 0) (tCons (tOp rXL (tVar 8) (tOp (rI0 fun i j => .int (i - j)) (tC (.int 1)) (tVar 9))) tNil))) tNil)))))))
    (tRet (tOp rXL (tVar 8) (tVar 9))))))))))) (tIfS (tNot (tB (tCall sp_L_sign [] E0 (tCons (tVar 0) (tCons (tVar 6) (tCons (tVar 2) (tCons (tVar 3) tNil))))))) (tRet (tUn (rU fun i => .int (-i)) (tC (.int 1)))) tNext)))))
    (tRet (tOp (rI0 fun i j => .int (i + j)) (tVar 2) (tC (.int 1)))))

/-- _law_follow from 1 -/
def t_L_follow_1 (K : PySem.W.Frag) : TS :=
  tSeq (tAsg (tOp rXT (tVar 5) (tC (.int 0))) (gName 6)) (t_L_follow_2 K)

/-- _law_follow -/
def t_L_follow (K : PySem.W.Frag) : TS :=
  tSeq (tAsg (tOp rXT (tVar 1) (tVar 2)) (gName 5)) (t_L_follow_1 K)

/-- _law_quick from 3 -/
def t_L_quick_3 (K : PySem.W.Frag) : TS :=
  (tSeq (tAsg (tLc (iList K (tCB rSrtD (tCons (tOp rGetS (tVar 5) (tC (.str (wd 8)))) tNil))) (gName 9) tYes (xTup (tCons (tC (.str (wd 20))) (tCons (tVar 9) (tCons (tOp rGetS (tOp rGetS (tVar 5) (tC (.str (wd 38)))) (tVar 9)) tNil)))) [9]) (gName 8))
    (tRet (tCB rTupL (tCons (tOp rCt (tOp rCt (tOp rGetS (tVar 5) (tC (.str (wd 36)))) (tVar 8)) (xLst (tCons (xTup (tCons (tC (.str (wd 21))) tNil)) tNil))) tNil))))

/-- _law_quick from 2 -/
def t_L_quick_2 (K : PySem.W.Frag) : TS :=
  tSeq (tWhile (tTest (tOp rNe (tVar 6) (tVar 1)))
    (tSeq (tAsg (tUn (rU fun i => .int (-i)) (tC (.int 1))) (gName 7))
    (tSeq (tIfS (tAnd (tTest (tOp (rInT true) (tOp rXT (tOp rXT (tVar 0) (tVar 6)) (tC (.int 0))) (xTup (tCons (tC (.str (wd 11))) (tCons (tC (.str (wd 12))) tNil))))) (tTest (tOp (rI0 fun i j => .bl (decide (i < j))) (tCB rLenL (tCons (tOp rGetS (tVar 5) (tC (.str (wd 36)))) tNil)) (tVar 4)))) (tAsg (tCall sp_L_follow [] E0 (tCons (tVar 5) (tCons (tVar 0) (tCons (tVar 6) (tCons (tVar 2) (tCons (tVar 3) tNil)))))) (gName 7)) tNext)
    (tSeq (tIfS (tTest (tOp (rI0 fun i j => .bl (decide (i < j))) (tVar 7) (tC (.int 0)))) (tRet (tCB rTupL (tCons (tOp rCt (tOp rGetS (tVar 5) (tC (.str (wd 36)))) (xLst (tCons (xTup (tCons (tC (.str (wd 22))) (tCons (tCall sp_L_exit [] E0 (tCons (tVar 5) (tCons (tVar 6) tNil))) tNil))) tNil))) tNil))) tNext)
    (tAsg (tVar 7) (gName 6)))))) (t_L_quick_3 K)

/-- _law_quick from 1 -/
def t_L_quick_1 (K : PySem.W.Frag) : TS :=
  tSeq (tAsg (tOp (rI0 fun i j => .int (i + j)) (tVar 1) (tC (.int 1))) (gName 6)) (t_L_quick_2 K)

/-- _law_quick -/
def t_L_quick (K : PySem.W.Frag) : TS :=
  tSeq (tAsg (tDisp (((tC (.str (wd 36))), (xLst (tCons (xTup (tCons (tC (.str (wd 16))) tNil)) tNil))) :: (((tC (.str (wd 37))), (tC (.int 0))) :: (((tC (.str (wd 38))), xDic) :: (((tC (.str (wd 8))), xDic) :: (((tC (.str (wd 32))), (xLst tNil)) :: (((tC (.str (wd 39))), xDic) :: []))))))) (gName 5)) (t_L_quick_1 K)

theorem rd_L_new {K : PySem.W.Frag} {vs : List V} {H : Hp} {Q : VK} {E : XK} (h : sp_L_new vs H Q E) : t_L_new K { nx := fun _ H' => Q .non H', rt := Q } (start ["_", "_", "_"] vs) H := by
  obtain ⟨A, m, kd, rfl, ⟨hd, ⟨xs, hr, tr⟩, hw, hc, hh, hk, n1, n2, n3, n4, n5, n6, n7⟩, ok, k⟩ := h
  show t_L_new K _ [some (.ref A.d), some (.str (okd kd)), none] H
  have l1 := ok.kl
  have l2 := ok.rl
  have l3 := ok.hl
  unfold t_L_new; refine st_seq ?_
  push_cast [hd, lm_many]
  unfold t_L_new_1; refine st_seq ?_
  push_cast [hd]
  refine ⟨lm_len, fun H1 M1 => ?_⟩
  replace hw := M1.k hw n5.symm
  replace hc := M1.k hc n6.symm
  replace hk := M1.k hk n7.symm
  replace hr := M1.k hr (ne_of hr hd (by simp)); replace hh := M1.k hh (ne_of hh hd (by simp)); replace hd := M1.at_
  replace tr := tr.tups M1.tu
  rw [lmp_many] at hd
  have f1 : Fr A.fp H H1 := M1.fr (by simp [LA.fp])
  unfold t_L_new_2; refine st_seq ?_
  have tail : ∀ (H2 : Hp) (kn : List (Nat × Kd)), H2 A.d = some (.dK (lmK A (m.many + 1))) → (∃ xs, H2 A.ra = some (.lst xs) ∧ TpL H2 (m.rows.map Qr.d) xs) → H2 A.wa = some (.dK (kvG sK nV m.whr)) → H2 A.ca = some (.dK (kvG sK V.bl m.chg)) → H2 A.ha = some (.lst (m.hf.reverse.map nV)) → H2 A.na = some (.dK (kvG nK kdV kn)) → Fr A.fp H H2 →
      (∀ H' A', LmAt H' A' ⟨m.rows, m.many + 1, m.whr, m.chg, m.many :: m.hf, kn⟩ → LNx H A A' → Fr A.fp H H' → Q (.int (m.many : Nat)) H') →
      t_L_new_3 K { nx := fun _ H' => Q .non H', rt := Q } [some (.ref A.d), some (.str (okd kd)), some (.int (m.many : Nat))] H2 := by
    rintro H2 kn hd ⟨xs, hr, tr⟩ hw hc hh hk f2 k
    unfold t_L_new_3; refine st_seq ?_
    push_cast [hd, lm_half]
    refine ⟨(by simp only [List.length_cons, List.length_nil]; decide), fun q H3 A3 => ?_⟩
    replace hd := A3.k hd; replace hr := A3.k hr; replace hw := A3.k hw; replace hc := A3.k hc; replace hh := A3.k hh; replace hk := A3.k hk
    replace tr := tr.tups A3.tu
    push_cast [hh, A3.at_]
    refine ⟨?_, fun ha' H4 A4 => ?_⟩
    · simp only [List.length_map, List.length_reverse, List.length_cons, List.length_nil]
      exact Nat.le_of_lt (bigL (by omega))
    have nra : A.ra ≠ ha' := ne_of_none hr A4.new
    have nha : H ha' = none := by
      have f3 : Fr A.fp H H3 := f2.al A3
      refine f3.free A4.new fun hz => ?_
      simp only [LA.fp, List.mem_cons, List.not_mem_nil, or_false] at hz
      have nw := A4.new
      rcases hz with e | e | e | e | e | e
      · rw [e, hd] at nw; cases nw
      · rw [e, hr] at nw; cases nw
      · rw [e, hw] at nw; cases nw
      · rw [e, hc] at nw; cases nw
      · rw [e, hh] at nw; cases nw
      · rw [e, hk] at nw; cases nw
    replace hd := A4.k hd; replace hr := A4.k hr; replace hw := A4.k hw; replace hc := A4.k hc; replace hk := A4.k hk
    replace tr := tr.tups A4.tu
    have hh' := A4.at_
    refine ⟨_, hd, lm_len, fun H5 M5 => ?_⟩
    replace hw := M5.k hw n5.symm
    replace hc := M5.k hc n6.symm
    replace hk := M5.k hk n7.symm
    replace hr := M5.k hr (ne_of hr hd (by simp)); replace hh' := M5.k hh' (ne_of hh' hd (by simp)); replace hd := M5.at_
    replace tr := tr.tups M5.tu
    rw [lmp_half] at hd
    push_cast
    refine k H5 { A with ha := ha' } ⟨hd, ⟨xs, hr, tr⟩, hw, hc, by rw [hh']; exact congrArg (fun z => some (HO.lst z)) (half_push m.many m.hf), hk, nra, n2, n3, n4, n5, n6, n7⟩ ⟨ha', rfl, .inr nha⟩ (((f2.al A3).al A4).mu M5 (by simp [LA.fp]))
  cases kd with
  | none =>
    push_cast [okd]
    exact tail H1 m.known hd ⟨xs, hr, tr⟩ hw hc hh hk f1 k
  | some z =>
    push_cast [okd, Kd.s_ne, hd, lm_kinds, hk]
    refine ⟨bigL (by rw [kvG_length]; omega), fun H2 M2 => ?_⟩
    replace hw := M2.k hw n3
    replace hc := M2.k hc n4
    replace hd := M2.k hd n7
    replace hr := M2.k hr (ne_of hr hk (by simp)); replace hh := M2.k hh (ne_of hh hk (by simp)); replace hk := M2.at_
    replace tr := tr.tups M2.tu
    have e : putK (kvG nK kdV m.known) (Sum.inl ((m.many : Nat) : Int)) (V.str z.s) = kvG nK kdV (aput m.known m.many z) := putK_kvG (f := nK) (g := kdV) nK_inj m.known m.many z
    rw [e] at hk
    exact tail H2 _ hd ⟨xs, hr, tr⟩ hw hc hh hk (f1.mu M2 (by simp [LA.fp])) k
/-- the changed names, sorted -/
theorem lsrt_it {H : Hp} {A : LA} {m : Mk} {σ : L2.St} {R : VK} {i : Nat} (M : LmAt H A m) (ok : m.Ok) (hσ : σ[i]? = some (some (.ref A.d))) (k : ∀ p H1, H1 p = some (.lst ((srt (m.chg.map (·.1))).map V.str)) → H p = none → Fr [] H H1 → R (.ref p) H1) :
    tCB rSrtD (tCons (tOp rGetS (tVar i) (tC (.str (wd 8)))) tNil) σ H R := by
  have l1 := ok.cl
  refine ⟨_, hσ, A.d, _, _, _, rfl, rfl, M.dic, lm_set, A.ca, _, m.chg.map (·.1), rfl, M.chg, by simp [kvG, sK], by rw [List.length_map]; omega, fun ys p H2 hp hs A2 => ?_⟩
  rw [srt_uni ok.c8 hp hs] at A2
  exact k p H2 A2.at_ A2.new A2.fr
def LeavL (H : Hp) (m : Mk) (L : Addr) (i : Nat) (Hc : Hp) : Prop := ∃ xs, Hc L = some (.lst xs) ∧ TpL Hc (((srt (m.chg.map (·.1))).take i).map fun x => .tuple [.str x, .int (((aget m.whr x).getD 0 : Nat) : Int)]) xs ∧ Fr [] H Hc
theorem rd_L_exit {K : PySem.W.Frag} {vs : List V} {H : Hp} {Q : VK} {E : XK} (h : sp_L_exit vs H Q E) : t_L_exit K { nx := fun _ H' => Q .non H', rt := Q } (start ["_", "_", "_", "_"] vs) H := by
  obtain ⟨A, m, p, rfl, M, ok, k⟩ := h
  show t_L_exit K _ [some (.ref A.d), some (.int (p : Nat)), none, none] H
  unfold t_L_exit; refine st_seq ?_
  push_cast
  refine lsrt_it M ok rfl fun q H1 h1 nq f1 => ?_
  have M1 := M.keep0 f1
  have ln : (srt (m.chg.map (·.1))).length ≤ 8 := by rw [(srt_perm _).length_eq, List.length_map]; exact ok.cl
  refine ⟨q, rfl, ⟨_, SqL.of h1⟩, fun L hL => ?_⟩
  have A0 := Al.of (o := HO.lst []) hL
  refine lc_it (walk_list (xs := (srt (m.chg.map (·.1))).map V.str)) (LeavL H1 m L) ⟨[], A0.at_, by simp only [List.take_zero, List.map_nil]; exact .nil, A0.fr⟩ ?_ ?_ ?_
  · rintro i Hc _ ⟨xs, g1, g2, g3⟩
    exact SqL.of (g3.keep _ _ h1 (by simp))
  · rintro i x Hc H' hi ⟨xs, g1, g2, g3⟩ ⟨rfl, hx⟩
    obtain ⟨z, hz, rfl⟩ := map_get hx
    have mz : z ∈ m.chg.map (·.1) := (srt_perm _).subset (mem_of_get hz)
    obtain ⟨hd, _, hw, _⟩ := M1.keep0 g3
    push_cast [wipe, tYes, hd, lm_slots, hw, get_where ok mz]
    refine ⟨(by simp only [List.length_cons, List.length_nil]; decide), fun t H2 A2 => ?_⟩
    have g1' := A2.k g1
    have MM := Mu.of (o := .lst (xs ++ [.ref t])) g1' fun _ z => by cases z
    refine ⟨xs, g1', bigL (by rw [g2.length, List.length_map, List.length_take]; omega), xs ++ [.ref t], MM.at_, ?_, (g3.al A2).muN MM hL⟩
    rw [take_snoc hz, List.map_append]
    exact ((g2.tups A2.tu).snoc (.tup A2.at_ (.cons (.str _) (.cons (.int _) .nil)))).tups MM.tu
  · rintro Hc ⟨xs, g1, g2, g3⟩
    rw [List.length_map, List.take_length] at g2
    have M2 := M1.keep0 g3
    push_cast [g1]
    intro t1 H2 A2
    have M3 := M2.keep0 A2.fr
    obtain ⟨hd, _, _, _, hh, _⟩ := M3
    push_cast [hd, lm_half, hh]
    intro t2 H3 A3
    refine ⟨(by simp only [List.length_cons, List.length_nil]; decide), fun t3 H4 A4 => ?_⟩
    refine k _ _ ?_ ((((f1.trans g3).al A2).al A3).al A4)
    refine .tup A4.at_ (.cons (.int _) (.cons (.tup (A4.k (A3.k A2.at_)) ?_) (.cons (.tup (A4.k A3.at_) (tpl_ints _)) .nil)))
    simp only [Mk.exit, List.map_map]
    exact ((g2.tups A2.tu).tups A3.tu).tups A4.tu

theorem cutT2 {x y : Nat} {r : List Nat} : cutV ((y :: x :: r).reverse.map nV) (some (-2)) none = [nV x, nV y] := by
  unfold cutV HT.sIx
  simp only [List.length_map, List.length_reverse, List.length_cons]
  rw [if_pos (by decide), show ((-2 : Int) + ((r.length + 1 + 1 : Nat) : Int)).toNat = r.length by omega, show r.length + 1 + 1 - r.length = 2 by omega]
  simp
theorem cutN1 {y : Nat} {r : List Nat} : cutV ((y :: r).reverse.map nV) none (some (-1)) = r.reverse.map nV := by
  unfold cutV HT.sIx
  simp only [List.length_map, List.length_reverse, List.length_cons, List.drop_zero, Nat.sub_zero]
  rw [if_pos (by decide), show ((-1 : Int) + ((r.length + 1 : Nat) : Int)).toNat = r.length by omega]
  simp
theorem LmAt.offL {H : Hp} {A : LA} {m : Mk} (M : LmAt H A m) {x : Addr} (h : H x = none) : x ∉ A.fp := fun hz => M.there x hz h
/-- the half reckoned: another list -/
theorem LmAt.halve {H H1 H2 : Hp} {A : LA} {m : Mk} {r : List Nat} {ha' : Addr} (M : LmAt H A m) (A1 : Al H ha' (.lst (r.reverse.map nV)) H1) (M2 : Mu H1 A.d (.dK (putK (lmK A m.many) (.inr (wd 32)) (.ref ha'))) H2) : LmAt H2 { A with ha := ha' } { m with hf := r } ∧ LNx H A { A with ha := ha' } ∧ Fr A.fp H H2 := by
  obtain ⟨hd, ⟨xs, hr, tr⟩, hw, hc, hh, hk, n1, n2, n3, n4, n5, n6, n7⟩ := M
  have nra : A.ra ≠ ha' := ne_of_none hr A1.new
  replace hd := A1.k hd; replace hr := A1.k hr; replace hw := A1.k hw; replace hc := A1.k hc; replace hk := A1.k hk
  replace tr := tr.tups A1.tu
  have hh' := A1.at_
  replace hw := M2.k hw n5.symm
  replace hc := M2.k hc n6.symm
  replace hk := M2.k hk n7.symm
  replace hr := M2.k hr (ne_of hr hd (by simp)); replace hh' := M2.k hh' (ne_of hh' hd (by simp)); replace hd := M2.at_
  replace tr := tr.tups M2.tu
  rw [lmp_half] at hd
  exact ⟨⟨hd, ⟨xs, hr, tr⟩, hw, hc, hh', hk, nra, n2, n3, n4, n5, n6, n7⟩, ⟨ha', rfl, .inr A1.new⟩, A1.fr.mu M2 (by simp [LA.fp])⟩
/-- one row more -/
theorem LmAt.addRow {H H1 : Hp} {A : LA} {m : Mk} {q : Qr} {v : V} {xs : List V} (M : LmAt H A m) (hx : H A.ra = some (.lst xs)) (tx : TpL H (m.rows.map Qr.d) xs) (tv : Tp H q.d v) (X : Mu H A.ra (.lst (xs ++ [v])) H1) : LmAt H1 A { m with rows := m.rows ++ [q] } := by
  obtain ⟨hd, _, hw, hc, hh, hk, n1, n2, n3, n4, n5, n6, n7⟩ := M
  replace hh := X.k hh n1.symm
  replace hd := X.k hd (ne_of hd hx (by simp))
  replace hw := X.k hw (ne_of hw hx (by simp))
  replace hc := X.k hc (ne_of hc hx (by simp))
  replace hk := X.k hk (ne_of hk hx (by simp))
  refine ⟨hd, ⟨_, X.at_, ?_⟩, hw, hc, hh, hk, n1, n2, n3, n4, n5, n6, n7⟩
  simp only
  rw [List.map_append]
  exact TpL.append (tx.tups X.tu) (.cons (tv.tups X.tu) .nil)
theorem lsign_tail {K : PySem.W.Frag} {H : Hp} {Q : VK} {A : LA} {m : Mk} {g : Sg} {k : Option Kd} {a b : Nat} {r : List Nat} {pa : Addr} {vp va v6 v7 v8 v9 : Option V} (M : LmAt H A m) (ok : m.Ok) (hf : m.hf = b :: a :: r) (hl : m.rows.length ≤ 60000) (hpa : H pa = some (.lst [nV a, nV b])) (npa : pa ∉ A.fp)
    (kk : ∀ H' A', LmAt H' A' (m.push g k a b r) → LNx H A A' → Fr A.fp H H' → Q (.bl true) H') :
    t_L_sign_3 K { nx := fun _ H' => Q .non H', rt := Q } [some (.ref A.d), some (.str g.s), vp, va, some (.ref pa), some (.str (kdS k)), v6, v7, v8, v9] H := by
  have hd := M.dic
  have hh := M.half
  rw [hf] at hh
  have ok2 : ({ m with hf := r } : Mk).Ok := ⟨ok.rl, ok.kl, by have := ok.hl; rw [hf] at this; simp only [List.length_cons] at this ⊢; omega, ok.wn, ok.w8, ok.cn, ok.cw⟩
  unfold t_L_sign_3; refine st_seq ?_
  push_cast [hd, lm_half, hh, Int.reduceNeg, cutN2]
  intro ha' H1 A1
  have hpa1 := A1.k hpa
  have np1 : pa ≠ A.d := fun e => npa (by rw [e]; simp [LA.fp])
  push_cast [A1.k hd]
  refine ⟨lm_len, fun H2 M2 => ?_⟩
  obtain ⟨MM, N2, f2⟩ := M.halve A1 M2
  have hpa2 := M2.k hpa1 np1
  have npa2 : pa ∉ ({ A with ha := ha' } : LA).fp := fun hz => (N2.own pa hz).elim npa (by rw [hpa]; simp)
  have fin : ∀ (q : Addr) (H3 : Hp) (u : HO), Al H2 q u H3 → sp_L_new [.ref A.d, .str (madeK g k).s] H3 (fun y H4 => t_L_sign_5 K { nx := fun _ H' => Q .non H', rt := Q } [some (.ref A.d), some (.str g.s), vp, va, some (.ref pa), some (.str (kdS k)), v6, v7, v8, some y] H4) E0 := by
    intro q H3 u A3
    refine ⟨{ A with ha := ha' }, { m with hf := r }, some (madeK g k), rfl, MM.keep0 A3.fr, ok2, fun H4 A4 M4 N4 f4 => ?_⟩
    have hpa4 := f4.keep _ _ (A3.k hpa2) npa2
    obtain ⟨h4, e4, _⟩ := id N4
    have ed : A4.d = A.d := by rw [e4]
    have er : A4.ra = A.ra := by rw [e4]
    have hd4 := M4.dic
    rw [ed] at hd4
    obtain ⟨xs, hr, tr⟩ := M4.rows
    unfold t_L_sign_5; refine st_seq ?_
    push_cast [hd4, lm_rows, hr, hpa4]
    refine ⟨(by simp only [List.length_cons, List.length_nil]; decide), fun t H5 A5 => ?_⟩
    have M5 := M4.keep0 A5.fr
    push_cast [A5.k hr]
    refine ⟨bigL (by rw [tr.length, List.length_map]; exact Nat.le_trans hl (by decide)), fun H6 X6 => ?_⟩
    have M6 := M5.addRow (q := .op g k m.many a b) (A5.k hr) (tr.tups A5.tu) (.tup A5.at_ (.cons (.str _) (.cons (.str _) (.cons (.int _) (.cons (.int _) (.cons (.int _) .nil)))))) X6
    have N24 : LNx H A A4 := N2.trans f2 MM.there (N4.back (A3.fr))
    have f34 : Fr ({ A with ha := ha' } : LA).fp H2 H4 := A3.fr.trans f4
    have f46 : Fr A4.fp H4 H6 := A5.fr.mu X6 (by simp [LA.fp])
    exact kk H6 A4 M6 N24 (f2.own N2.own (f34.own (N4.back A3.fr).own f46))
  unfold t_L_sign_4; refine st_seq ?_
  push_cast
  refine ⟨(by simp only [List.length_cons, List.length_nil]; decide), fun q H3 A3 => ?_⟩
  have hq := A3.at_
  cases k with
  | none =>
    push_cast [kdS, hq]
    exact fin q H3 _ A3
  | some z =>
    cases z with
    | n =>
      push_cast [kdS, Kd.s, hq]
      exact fin q H3 _ A3
    | t =>
      push_cast [kdS, Kd.s, sg_eq g 5 (by decide)]
      cases g with
      | less => push_cast [Sg.ix, hq]; exact fin q H3 _ A3
      | add => push_cast [Sg.ix, hq]; exact fin q H3 _ A3
      | sub => push_cast [Sg.ix, hq]; exact fin q H3 _ A3
      | same => push_cast [Sg.ix, hq]; exact fin q H3 _ A3
/-- a guard, where it is wanted -/
theorem lguard {H : Hp} {A : LA} {m : Mk} {a p : Nat} {kd : Kd} {D : Ends} {v1 v3 v4 v6 v7 v8 : Option V} (M : LmAt H A m) (ok : m.Ok)
    (k : ∀ H', LmAt H' A (m.guard a kd p) → Fr A.fp H H' → D.nx [some (.ref A.d), v1, some (.int (p : Nat)), v3, v4, some (.str kd.s), v6, v7, v8, some (nV a)] H') :
    tIfS (tB (tOp (rInDI true) (tVar 9) (tOp rGetS (tVar 0) (tC (.str (wd 39)))))) (tSeq (tDrop (tApp (tOp rGetS (tVar 0) (tC (.str (wd 36)))) (xTup (tCons (tC (.str (wd 18))) (tCons (tVar 9) (tCons (tVar 5) (tCons (tCall sp_L_exit [] E0 (tCons (tVar 0) (tCons (tVar 2) tNil))) tNil)))))))
      (xPutI (tOp rGetS (tVar 0) (tC (.str (wd 39)))) (tVar 9) (tVar 5))) tNext D [some (.ref A.d), v1, some (.int (p : Nat)), v3, v4, some (.str kd.s), v6, v7, v8, some (nV a)] H := by
  have M0 := M
  obtain ⟨hd, ⟨xs, hr, tr⟩, hw, hc, hh, hk, n1, n2, n3, n4, n5, n6, n7⟩ := M
  unfold Mk.guard at k
  cases e : aget m.known a with
  | some z =>
    rw [e] at k
    push_cast [nV, hd, lm_kinds, hk, vknown, e, Option.map_some, Option.isSome_some]
    exact k H M0 (.refl _ _)
  | none =>
    rw [e] at k
    push_cast [nV, hd, lm_kinds, hk, vknown, e, Option.map_none, Option.isSome_none]
    refine st_seq ?_
    push_cast [hd, lm_rows, hr]
    refine ⟨A, m, p, rfl, M0, ok, fun v H1 tv f1 => ⟨(by simp only [List.length_cons, List.length_nil]; decide), fun t H2 A2 => ?_⟩⟩
    have M2 := (M0.keep0 f1).keep0 A2.fr
    have hr2 := A2.k (f1.keep _ _ hr (by simp))
    have tr2 := (tr.tups f1.tu).tups A2.tu
    have l2 := ok.rl
    have l1 := ok.kl
    push_cast [hr2]
    refine ⟨bigL (by rw [tr.length, List.length_map]; omega), fun H3 X3 => ?_⟩
    have M3 := M2.addRow (q := .is a kd (m.exit p)) hr2 tr2 (.tup A2.at_ (.cons (.str _) (.cons (.int _) (.cons (.str _) (.cons (tv.tups A2.tu) .nil))))) X3
    have f3 : Fr A.fp H H3 := (f1.sub0.al A2).mu X3 (by simp [LA.fp])
    obtain ⟨hd, ⟨xs, hr, tr⟩, hw, hc, hh, hk, n1, n2, n3, n4, n5, n6, n7⟩ := M3
    push_cast [hd, lm_kinds, hk]
    refine ⟨bigL (by rw [kvG_length]; omega), fun H4 M4 => ?_⟩
    replace hw := M4.k hw n3
    replace hc := M4.k hc n4
    replace hd := M4.k hd n7
    replace hr := M4.k hr (ne_of hr hk (by simp)); replace hh := M4.k hh (ne_of hh hk (by simp)); replace hk := M4.at_
    replace tr := tr.tups M4.tu
    have e1 : putK (kvG nK kdV m.known) (Sum.inl ((a : Nat) : Int)) (V.str kd.s) = kvG nK kdV (aput m.known a kd) := putK_kvG (f := nK) (g := kdV) nK_inj m.known a kd
    rw [e1] at hk
    exact k H4 ⟨hd, ⟨_, hr, tr⟩, hw, hc, hh, hk, n1, n2, n3, n4, n5, n6, n7⟩ (f3.mu M4 (by simp [LA.fp]))

theorem forLL {tl : TE} {tb : TS} {j : Nat} {σ : L2.St} {H : Hp} {D : Ends} {K : PySem.W.Frag} {a : Addr} {xs : List V} (hv : ∀ R : VK, R (.ref a) H → tl σ H R) (hx : H a = some (.lst xs)) (Pv : Nat → L2.St → Hp → Prop) (h0 : Pv 0 σ H) (hl : ∀ i σ' H', Pv i σ' H' → H' a = some (.lst xs))
    (hs : ∀ (i : Nat) x σ' H', xs[i]? = some x → Pv i σ' H' → tb { D with nx := Pv (i + 1), ct := Pv (i + 1), bk := D.nx } (σ'.set j (some x)) H') (hd : ∀ σ' H', Pv xs.length σ' H' → D.nx σ' H') :
    tFor (iList K tl) (gName j) tb D σ H := by
  refine hv _ ⟨a, rfl, ⟨xs, SqL.of hx⟩, for_it walk_list Pv h0 (fun i σ' H' _ p => SqL.of (hl i σ' H' p)) (fun i x σ1 H1 H2 hi p y => ?_) hd⟩
  obtain ⟨e1, e2⟩ := y
  subst e1
  exact hs i x σ1 _ e2 p
def gAt (m : Mk) (a b : Nat) (kd : Kd) (p : Nat) : Nat → Mk
  | 0 => m
  | 1 => m.guard a kd p
  | _ => (m.guard a kd p).guard b kd p
def SgInv (H0 : Hp) (A : LA) (m : Mk) (a b p : Nat) (kd : Kd) (pa : Addr) (v1 v3 v6 v7 : Option V) (i : Nat) (σ : L2.St) (H : Hp) : Prop := ∃ v9, σ = [some (.ref A.d), v1, some (.int (p : Nat)), v3, some (.ref pa), some (.str kd.s), v6, v7, none, v9] ∧ LmAt H A (gAt m a b kd p i) ∧ H pa = some (.lst [nV a, nV b]) ∧ Fr A.fp H0 H
def SmI (L : Addr) (vs : List V) (H0 : Hp) (i : Nat) (Hc : Hp) : Prop := Hc L = some (.lst (vs.take i)) ∧ Fr [] H0 Hc
theorem rd_L_sign {K : PySem.W.Frag} {vs : List V} {H : Hp} {Q : VK} {E : XK} (h : sp_L_sign vs H Q E) : t_L_sign K { nx := fun _ H' => Q .non H', rt := Q } (start ["_", "_", "_", "_", "_", "_", "_", "_", "_", "_"] vs) H := by
  obtain ⟨A, m, g, p, ka, gk, rfl, M, ok, G, nka, hn, hl, k1, k2⟩ := h
  show t_L_sign K _ [some (.ref A.d), some (.str g.s), some (.int (p : Nat)), some (.ref ka), none, none, none, none, none, none] H
  match hf : m.hf, hn with
  | b :: a :: r, _ =>
  have hd := M.dic
  have hh := M.half
  rw [hf] at hh
  unfold t_L_sign; refine st_seq ?_
  push_cast [hd, lm_half, hh, Int.reduceNeg, cutT2]
  intro pa H1 A1
  have M1 := M.keep0 A1.fr
  have G1 := G.keep (A1.fr (S := [])) (by simp)
  have hpa := A1.at_
  have npa := M.offL A1.new
  have hd1 := A1.k hd
  unfold t_L_sign_1; refine st_seq ?_
  push_cast
  unfold t_L_sign_2; refine st_seq ?_
  by_cases hg : g = .same
  · subst hg
    push_cast [Sg.s, Sg.ix]
    refine lsign_tail (g := .same) (k := none) M1 ok hf (by omega) hpa npa fun H' A' M' N' f' => k1 H' A' _ ?_ M' (N'.back A1.fr) (A1.fr.trans f')
    simp only [Mk.row, hf, if_true]
  · have hs : (g.s = wd 6) = False := by
      rw [sg_eq g 6 (by decide)]
      cases g <;> first | exact absurd rfl hg | simp [Sg.ix]
    have rowE : m.row (gk p) p (.op g) = (match m.guess (gk p) a b with
      | some k => some (((m.guard a k p).guard b k p).push g (some k) a b r)
      | none => none) := by
      simp only [Mk.row, hf]
      rw [if_neg hg]
      first | done | (cases m.guess (gk p) a b <;> rfl)
    push_cast [hs]
    obtain ⟨ks, hka, hgk⟩ := G1.dic
    refine st_seq ?_
    push_cast [hka]
    refine ⟨(by simp only [List.length_cons, List.length_nil]; decide), fun q H2 A2 => ?_⟩
    have hka2 := A2.k hka
    have M2 := M1.keep0 A2.fr
    have hpa2 := A2.k hpa
    push_cast [hka2]
    obtain ⟨t, ht, h0⟩ : ∃ t, (valV ks (Sum.inl ((p : Nat) : Int))).getD (.ref q) = .ref t ∧ H2 t = some (.tup [.str (okS ((gk p).map (·.1))), .str (okS ((gk p).map (·.2)))]) := by
      cases e : gk p with
      | none =>
        have := (hgk p).1 e
        rw [show (Sum.inl ((p : Nat) : Int) : Key) = nK p from rfl, this]
        exact ⟨q, rfl, A2.at_⟩
      | some z =>
        obtain ⟨v, h1, h2⟩ := (hgk p).2 z.1 z.2 e
        rw [show (Sum.inl ((p : Nat) : Int) : Key) = nK p from rfl, h1]
        simp only [tp_tup, tpl_cons, tpl_nil, tp_str] at h2
        obtain ⟨t, ys, rfl, h3, _, r1, rfl, rfl, _, r2, rfl, rfl, rfl⟩ := h2
        exact ⟨t, rfl, A2.k h3⟩
    rw [ht]
    have hd2 := M2.dic
    have hk2 := M2.known
    refine st_seq ?_
    refine lcR (n := 2) (fun R h => by push_cast; exact h) (by decide) (by decide) fun L hL => ⟨SmI L [.str (okS ((aget m.known a).or ((gk p).map (·.1)))), .str (okS ((aget m.known b).or ((gk p).map (·.2))))] H2, ⟨upd_same, (Al.of hL).fr⟩, ?_, ?_⟩
    · rintro i Hc hi ⟨h1, f⟩
      have hdc := f.keep _ _ hd2 (by simp)
      have hkc := f.keep _ _ hk2 (by simp)
      have hpc := f.keep _ _ hpa2 (by simp)
      have htc := f.tu _ _ h0
      have hi' : i = 0 ∨ i = 1 := by omega
      unfold LcTurn
      rcases hi' with rfl | rfl
      · rw [show (((0 : Nat) : Int)) = 0 from rfl]
        push_cast [wipe, tYes, hdc, lm_kinds, hkc, hpc, htc, nV, vknown, okS_getD]
        exact ⟨_, h1, bigL (by simp), upd_same, f.muN (Mu.of h1 fun _ z => by cases z) hL⟩
      · rw [show (((1 : Nat) : Int)) = 1 from rfl]
        push_cast [wipe, tYes, hdc, lm_kinds, hkc, hpc, htc, nV, vknown, okS_getD]
        exact ⟨_, h1, bigL (by simp), upd_same, f.muN (Mu.of h1 fun _ z => by cases z) hL⟩
    · rintro H3 ⟨h3, f3⟩
      have h3 : H3 L = some (.lst [.str (okS ((aget m.known a).or ((gk p).map (·.1)))), .str (okS ((aget m.known b).or ((gk p).map (·.2))))]) := h3
      have M3 := M2.keep0 f3
      have hpa3 := f3.keep _ _ hpa2 (by simp)
      have F3 : Fr [] H H3 := (A1.fr.al A2).trans f3
      push_cast
      refine st_seq ?_
      push_cast [h3]
      refine st_seq ?_
      have no : m.guess (gk p) a b = none → Q (.bl false) H3 := fun e => k2 H3 (by rw [rowE, e]) (M.keep0 F3) F3.sub0
      unfold Mk.guess at no
      cases e1 : (aget m.known a).or ((gk p).map (·.1)) with
      | none =>
        rw [e1] at no h3
        push_cast [rInL, okS, h3]
        exact no rfl
      | some x =>
        cases e2 : (aget m.known b).or ((gk p).map (·.2)) with
        | none =>
          rw [e1, e2] at no h3
          push_cast [rInL, okS, Kd.s_ne, h3]
          exact no rfl
        | some y =>
          rw [e1, e2] at no h3
          simp only at no
          push_cast [rInL, okS, Kd.s_ne, Kd.s_inj, h3]
          by_cases hxy : x = y
          · subst hxy
            have gs : m.guess (gk p) a b = some x := by
              unfold Mk.guess
              rw [e1, e2]
              simp
            rw [gs] at rowE
            push_cast
            obtain ⟨o1, hf1, r1, _⟩ := guard_ok (a := a) (k := x) (p := p) ok (by omega)
            obtain ⟨o2, hf2, r2, _⟩ := guard_ok (a := b) (k := x) (p := p) o1 (by omega)
            refine forLL (a := pa) (xs := [nV a, nV b]) (fun R h => by push_cast; exact h) hpa3 (SgInv H A m a b p x pa _ _ _ _) ⟨none, rfl, M3, hpa3, F3.sub0⟩ (fun i σ' H' ⟨_, _, _, h, _⟩ => h) ?_ ?_
            · rintro i z σ' H4 hz ⟨v9, rfl, M4, hp4, f4⟩
              have hi : i = 0 ∨ i = 1 := by
                have := (List.getElem?_eq_some_iff.mp hz).1
                simp only [List.length_cons, List.length_nil] at this
                omega
              rcases hi with rfl | rfl
              · cases hz
                refine lguard (kd := x) M4 ok fun H5 M5 f5 => ⟨_, rfl, M5, f5.keep _ _ hp4 npa, f4.trans f5⟩
              · cases hz
                refine lguard (kd := x) M4 o1 fun H5 M5 f5 => ⟨_, rfl, M5, f5.keep _ _ hp4 npa, f4.trans f5⟩
            · rintro σ' H4 ⟨v9, rfl, M4, hp4, f4⟩
              refine lsign_tail (k := some x) M4 o2 (by rw [show (gAt m a b x p [nV a, nV b].length).hf = m.hf from hf2.trans hf1]; exact hf) (by have : (gAt m a b x p [nV a, nV b].length).rows.length ≤ m.rows.length + 2 := (by show ((m.guard a x p).guard b x p).rows.length ≤ _; omega); omega) hp4 npa fun H5 A5 M5 N5 f5 => k1 H5 A5 _ rowE M5 ?_ (f4.trans f5)
              obtain ⟨h', e, hh'⟩ := N5
              refine ⟨h', e, ?_⟩
              rcases hh' with z | z
              · exact .inl z
              · exact .inr (f4.free z fun hz => M4.there _ hz z)
          · rw [if_neg hxy] at no
            exact iteT' hxy (no rfl)

theorem fol_row {code : List Rw} {gk : Nat → Option (Kd × Kd)} {gw : Nat → Option Bool} {most : Nat} {m : Mk} {p : Nat} {r : Rw} (h1 : code[p]? = some r) (he : endsIt r = false) (hl : m.rows.length < most) (hp : plainR r) : fol code gk gw most m p = (m.row (gk p) p r).map fun m' => (m', p + 1) := by
  unfold fol
  rw [h1]
  simp only [he, Bool.false_eq_true, or_false]
  rw [if_neg (by omega)]
  cases r <;> first | rfl | exact hp.elim
theorem rd_L_follow {K : PySem.W.Frag} {vs : List V} {H : Hp} {Q : VK} {E : XK} (h : sp_L_follow vs H Q E) : t_L_follow K { nx := fun _ H' => Q .non H', rt := Q } (start ["_", "_", "_", "_", "_", "_", "_", "_", "_", "_"] vs) H := by
  obtain ⟨A, m, vc, code, p, most, r, ka, wa, gk, gw, rfl, M, ok, G, W, nka, nwa, tc, hr, hn, hv, he, hl, hm, k1, k2⟩ := h
  show t_L_follow K _ [some (.ref A.d), some vc, some (.int (p : Nat)), some (.ref ka), some (.ref wa), none, none, none, none, none] H
  obtain ⟨ca, rows, y, rfl, hca, _, hix, ty⟩ := code_at tc hr
  have l1 := ok.kl
  have l2 := ok.rl
  have l3 := ok.hl
  have ok' := ok
  have M0 := M
  obtain ⟨hd, ⟨xs, hrw, tr⟩, hw, hc, hh, hk, n1, n2, n3, n4, n5, n6, n7⟩ := M
  have lxs : xs.length = m.rows.length := by rw [tr.length, List.length_map]
  unfold t_L_follow; refine st_seq ?_
  push_cast [hca, hix]
  unfold t_L_follow_1; refine st_seq ?_
  have done : ∀ (H' : Hp) (A' : LA) (m' : Mk), fol code gk gw most m p = some (m', p + 1) → LmAt H' A' m' → LNx H A A' → Fr A.fp H H' → Q (.int ((p : Nat) + 1)) H' := fun H' A' m' h1 h2 h3 h4 => k1 H' A' m' (p + 1) h1 h2 h3 h4
  cases r with
  | top => cases he
  | fin => cases he
  | num n =>
    have fe := fol_row (gk := gk) (gw := gw) hr he hl (m := m) trivial
    obtain ⟨ra, rfl, hra⟩ := tp2i ty
    push_cast [hra]
    unfold t_L_follow_2; refine st_seq ?_
    push_cast
    refine ⟨(by simp only [List.length_cons, List.length_nil]; decide), fun q H1 A1 => ?_⟩
    push_cast [A1.at_, A1.k hd, lm_rows, A1.k hrw]
    refine ⟨by decide +kernel, 110, by decide +kernel, A, m, some .n, by rw [show okd (some Kd.n) = (⟨#[110]⟩ : Str) by decide +kernel], M0.keep0 A1.fr, ok, fun H2 A2 M2 N2 f2 => ?_⟩
    obtain ⟨h2, e2, _⟩ := id N2
    have er : A2.ra = A.ra := by rw [e2]
    obtain ⟨ys, hr2, tr2⟩ := M2.rows
    rw [er] at hr2
    have lys : ys.length = m.rows.length := by rw [tr2.length, List.length_map]; rfl
    push_cast [f2.tu _ _ (A1.k hra)]
    refine ⟨(by simp only [List.length_cons, List.length_nil]; decide), fun t H3 A3 => ?_⟩
    push_cast [A3.k hr2]
    refine ⟨bigL (by omega), fun H4 X4 => ?_⟩
    have M4 := (M2.keep0 A3.fr).addRow (q := .num m.many n) (by rw [er]; exact A3.k hr2) (tr2.tups A3.tu) (.tup A3.at_ (.cons (.str _) (.cons (.int _) (.cons (.int _) .nil)))) (by rw [er]; exact X4)
    have f24 : Fr A2.fp H2 H4 := A3.fr.mu X4 (by rw [← er]; simp [LA.fp])
    exact done H4 A2 _ (by rw [fe]; rfl) M4 (N2.back A1.fr) (A1.fr.trans (f2.own N2.own f24))
  | text n =>
    have fe := fol_row (gk := gk) (gw := gw) hr he hl (m := m) trivial
    obtain ⟨ra, rfl, hra⟩ := tp2s ty
    push_cast [hra]
    unfold t_L_follow_2; refine st_seq ?_
    push_cast
    refine ⟨(by simp only [List.length_cons, List.length_nil]; decide), fun q H1 A1 => ?_⟩
    push_cast [A1.at_, A1.k hd, lm_rows, A1.k hrw]
    refine ⟨by decide +kernel, 116, by decide +kernel, A, m, some .t, by rw [show okd (some Kd.t) = (⟨#[116]⟩ : Str) by decide +kernel], M0.keep0 A1.fr, ok, fun H2 A2 M2 N2 f2 => ?_⟩
    obtain ⟨h2, e2, _⟩ := id N2
    have er : A2.ra = A.ra := by rw [e2]
    obtain ⟨ys, hr2, tr2⟩ := M2.rows
    rw [er] at hr2
    have lys : ys.length = m.rows.length := by rw [tr2.length, List.length_map]; rfl
    push_cast [f2.tu _ _ (A1.k hra)]
    refine ⟨(by simp only [List.length_cons, List.length_nil]; decide), fun t H3 A3 => ?_⟩
    push_cast [A3.k hr2]
    refine ⟨bigL (by omega), fun H4 X4 => ?_⟩
    have M4 := (M2.keep0 A3.fr).addRow (q := .text m.many n) (by rw [er]; exact A3.k hr2) (tr2.tups A3.tu) (.tup A3.at_ (.cons (.str _) (.cons (.int _) (.cons (.str _) .nil)))) (by rw [er]; exact X4)
    have f24 : Fr A2.fp H2 H4 := A3.fr.mu X4 (by rw [← er]; simp [LA.fp])
    exact done H4 A2 _ (by rw [fe]; rfl) M4 (N2.back A1.fr) (A1.fr.trans (f2.own N2.own f24))
  | name x =>
    have fe := fol_row (gk := gk) (gw := gw) hr he hl (m := m) trivial
    obtain ⟨ra, rfl, hra⟩ := tp2s ty
    have vw : valV (kvG sK nV m.whr) (Sum.inr x) = (aget m.whr x).map nV := valV_kvG sK_inj x m.whr
    push_cast [hra]
    unfold t_L_follow_2; refine st_seq ?_
    push_cast
    refine ⟨(by simp only [List.length_cons, List.length_nil]; decide), fun q H1 A1 => ?_⟩
    have M1 := M0.keep0 A1.fr
    have hd1 := A1.k hd
    have hw1 := A1.k hw
    have hh1 := A1.k hh
    have hra1 := A1.k hra
    cases e : aget m.whr x with
    | some s =>
      simp only [Mk.row, e, Option.map_some] at fe
      rw [e] at vw
      push_cast [A1.at_, hra1, hd1, lm_slots, hw1, vw, Option.map_some, Option.isSome_some, lm_half]
      refine ⟨(by simp only [List.length_cons, List.length_nil]; decide), fun t H2 A2 => ?_⟩
      push_cast [A2.k hh1, A2.at_]
      refine ⟨?_, fun ha' H3 A3 => ?_⟩
      · simp only [List.length_map, List.length_reverse, List.length_cons, List.length_nil]
        exact Nat.le_of_lt (bigL (by omega))
      have M2 := M1.keep0 A2.fr
      rw [half_push] at A3
      push_cast [A3.k (A2.k hd1)]
      refine ⟨lm_len, fun H4 X4 => ?_⟩
      obtain ⟨M4, N4, f4⟩ := M2.halve A3 X4
      have f02 : Fr [] H H2 := A1.fr.al A2
      exact done H4 _ _ fe M4 (N4.back f02) (f02.sub0.trans f4)
    | none =>
      simp only [Mk.row, e, Option.map_some] at fe
      rw [e] at vw
      push_cast [A1.at_, hra1, hd1, lm_slots, hw1, vw, Option.map_none, Option.isSome_none]
      refine st_seq ?_
      push_cast
      refine ⟨A, m, none, rfl, M1, ok, fun H2 A2 M2 N2 f2 => ?_⟩
      obtain ⟨h2, e2, _⟩ := id N2
      have ed : A2.d = A.d := by rw [e2]
      have ew : A2.wa = A.wa := by rw [e2]
      have er : A2.ra = A.ra := by rw [e2]
      obtain ⟨hd2, ⟨ys, hr2, tr2⟩, hw2, hc2, hh2, hk2, m1, m2, m3, m4, m5, m6, m7⟩ := M2
      simp only [Mk.newH, Mk.new] at hd2 tr2 hw2 hc2 hh2 hk2
      have hra2 := f2.tu _ _ hra1
      rw [ed] at hd2
      have wl := ok.wl
      push_cast [hd2, lm_slots, hw2, hra2]
      refine ⟨bigL (by rw [kvG_length]; omega), fun H3 X3 => ?_⟩
      replace hc2 := X3.k hc2 m2.symm
      replace hk2 := X3.k hk2 m3.symm
      replace hd2 := X3.k hd2 (by rw [← ed]; exact m5)
      replace hr2 := X3.k hr2 (ne_of hr2 hw2 (by simp)); replace hh2 := X3.k hh2 (ne_of hh2 hw2 (by simp)); replace hw2 := X3.at_
      replace tr2 := tr2.tups X3.tu
      have hra3 := X3.tu _ _ hra2
      have e1 : putK (kvG sK nV m.whr) (Sum.inr x) (V.int ((m.many : Nat) : Int)) = kvG sK nV (aput m.whr x m.many) := putK_kvG (f := sK) (g := nV) sK_inj m.whr x m.many
      rw [e1] at hw2
      have vw2 : valV (kvG sK nV (aput m.whr x m.many)) (Sum.inr x) = some (nV m.many) := by
        rw [show (Sum.inr x : Key) = sK x from rfl, valV_kvG sK_inj, aget_put, if_pos rfl]; rfl
      have M3 : LmAt H3 A2 ⟨m.rows, m.many + 1, aput m.whr x m.many, m.chg, m.many :: m.hf, m.known⟩ := ⟨by rw [ed]; exact hd2, ⟨ys, hr2, tr2⟩, hw2, hc2, hh2, hk2, m1, m2, m3, m4, m5, m6, m7⟩
      have lys : ys.length = m.rows.length := by rw [tr2.length, List.length_map]
      push_cast [hd2, lm_rows, hr2, lm_slots, hw2, hra3, vw2]
      refine ⟨(by simp only [List.length_cons, List.length_nil]; decide), fun t H4 A4 => ?_⟩
      push_cast [A4.k hr2]
      refine ⟨bigL (by omega), fun H5 X5 => ?_⟩
      have M5 := (M3.keep0 A4.fr).addRow (q := .get m.many x) (A4.k hr2) (tr2.tups A4.tu) (.tup A4.at_ (.cons (.str _) (.cons (.int _) (.cons (.str _) .nil)))) X5
      have f25 : Fr A2.fp H2 H5 := ((X3.fr (by simp [LA.fp])).al A4).mu X5 (by simp [LA.fp])
      exact done H5 A2 _ fe M5 (N2.back A1.fr) (A1.fr.trans (f2.own N2.own f25))
  | go z =>
    obtain ⟨ra, rfl, hra⟩ := tp2i ty
    push_cast [hra]
    unfold t_L_follow_2; refine st_seq ?_
    push_cast
    refine ⟨(by simp only [List.length_cons, List.length_nil]; decide), fun q H1 A1 => ?_⟩
    push_cast [A1.at_, A1.k hra]
    exact k1 H1 A m z (by unfold fol; rw [hr]; simp only [endsIt, Bool.false_eq_true, or_false]; rw [if_neg (by omega)]) (M0.keep0 A1.fr) (.refl _ _) A1.fr
  | op g =>
    have fe := fol_row (gk := gk) (gw := gw) hr he hl (m := m) trivial
    obtain ⟨ra, rfl, hra⟩ := tp1 ty
    have z9 : (g.s = wd 2) = False ∧ (g.s = wd 10) = False := by
      have hg : 3 ≤ g.ix ∧ g.ix ≤ 6 := by cases g <;> decide
      simp only [sg_eq g _ (show 2 < 42 by decide), sg_eq g _ (show 10 < 42 by decide)]
      refine ⟨?_, ?_⟩ <;> simp only [eq_iff_iff, iff_false] <;> omega
    push_cast [hra]
    unfold t_L_follow_2; refine st_seq ?_
    push_cast
    refine ⟨(by simp only [List.length_cons, List.length_nil]; decide), fun q H1 A1 => ?_⟩
    push_cast [A1.at_, sg_ne g (i := 0) (by decide), sg_ne g (i := 1) (by decide), z9.1, z9.2]
    refine ⟨(by simp only [List.length_cons, List.length_nil]; decide), fun q2 H2 A2 => ?_⟩
    push_cast [A2.at_, sg_ne g (i := 7) (by decide), sg_ne g (i := 8) (by decide), sg_ne g (i := 9) (by decide)]
    have f02 : Fr [] H H2 := A1.fr.al A2
    refine ⟨A, m, g, p, ka, gk, rfl, M0.keep0 f02, ok, G.keep f02 (by simp), nka, hn, by omega, fun H3 A3 m' hm' M3 N3 f3 => ?_, fun H3 hm' M3 f3 => ?_⟩
    · push_cast
      exact done H3 A3 m' (by rw [fe, hm']; rfl) M3 (N3.back f02) (f02.sub0.trans f3)
    · push_cast
      exact k2 H3 (by rw [fe, hm']; rfl) M3 (f02.sub0.trans f3)
  | say =>
    have fe := fol_row (gk := gk) (gw := gw) hr he hl (m := m) trivial
    obtain ⟨ra, rfl, hra⟩ := tp1 ty
    push_cast [hra]
    unfold t_L_follow_2; refine st_seq ?_
    push_cast
    refine ⟨(by simp only [List.length_cons, List.length_nil]; decide), fun q H1 A1 => ?_⟩
    push_cast [A1.at_]
    refine ⟨(by simp only [List.length_cons, List.length_nil]; decide), fun q2 H2 A2 => ?_⟩
    push_cast [A2.at_]
    have f02 : Fr [] H H2 := A1.fr.al A2
    have M2 := M0.keep0 f02
    have hd2 := f02.keep _ _ hd (by simp)
    have hh2 := f02.keep _ _ hh (by simp)
    match hf : m.hf, hn with
    | s :: h', _ =>
      rw [hf] at hh2
      simp only [Mk.row, hf, Option.map_some] at fe
      refine st_seq ?_
      push_cast
      refine st_seq ?_
      push_cast [hd2, lm_half, hh2, Int.reduceNeg, atN1]
      refine st_seq ?_
      push_cast [hd2, lm_half, hh2, Int.reduceNeg, cutN1]
      intro ha' H3 A3
      push_cast [A3.k hd2]
      refine ⟨lm_len, fun H4 X4 => ?_⟩
      obtain ⟨M4, N4, f4⟩ := M2.halve A3 X4
      have hd4 := M4.dic
      obtain ⟨ys, hr4, tr4⟩ := M4.rows
      have lys : ys.length = m.rows.length := by rw [tr4.length, List.length_map]
      simp only at hd4 hr4
      push_cast [hd4, lm_rows, hr4]
      refine ⟨(by simp only [List.length_cons, List.length_nil]; decide), fun t H5 A5 => ?_⟩
      push_cast [A5.k hr4]
      refine ⟨bigL (by omega), fun H6 X6 => ?_⟩
      have M6 := (M4.keep0 A5.fr).addRow (q := .say s) (A5.k hr4) (tr4.tups A5.tu) (.tup A5.at_ (.cons (.str _) (.cons (.int _) .nil))) X6
      have f46 : Fr ({ A with ha := ha' } : LA).fp H4 H6 := A5.fr.mu X6 (by simp [LA.fp])
      exact done H6 _ _ fe M6 (N4.back f02) (f02.sub0.trans (f4.own N4.own f46))
  | set x =>
    have fe := fol_row (gk := gk) (gw := gw) hr he hl (m := m) trivial
    obtain ⟨ra, rfl, hra⟩ := tp2s ty
    push_cast [hra]
    unfold t_L_follow_2; refine st_seq ?_
    push_cast
    refine ⟨(by simp only [List.length_cons, List.length_nil]; decide), fun q H1 A1 => ?_⟩
    push_cast [A1.at_]
    refine ⟨(by simp only [List.length_cons, List.length_nil]; decide), fun q2 H2 A2 => ?_⟩
    push_cast [A2.at_]
    have f02 : Fr [] H H2 := A1.fr.al A2
    have M2 := M0.keep0 f02
    have hd2 := f02.keep _ _ hd (by simp)
    have hh2 := f02.keep _ _ hh (by simp)
    match hf : m.hf, hn with
    | s :: h', _ =>
      rw [hf] at hh2
      simp only [Mk.row, hf, Option.map_some] at fe
      refine st_seq ?_
      push_cast
      refine st_seq ?_
      push_cast [hd2, lm_half, hh2, Int.reduceNeg, atN1]
      refine st_seq ?_
      push_cast [hd2, lm_half, hh2, Int.reduceNeg, cutN1]
      intro ha' H3 A3
      push_cast [A3.k hd2]
      refine ⟨lm_len, fun H4 X4 => ?_⟩
      have hra4 := X4.tu _ _ (A3.k (f02.tu _ _ hra))
      obtain ⟨M4, N4, f4⟩ := M2.halve A3 X4
      obtain ⟨hd4, hr4, hw4, hc4, hh4, hk4, m1, m2, m3, m4, m5, m6, m7⟩ := M4
      simp only at hd4 hr4 hw4 hc4 hh4 hk4 m1 m2 m3 m4 m5 m6 m7
      have wl := ok.wl
      have cl := ok.cl
      push_cast
      refine st_seq ?_
      push_cast [hd4, lm_slots, hw4, hra4]
      refine ⟨bigL (by rw [kvG_length]; omega), fun H5 X5 => ?_⟩
      obtain ⟨ys, hr4, tr4⟩ := hr4
      replace hc4 := X5.k hc4 m2.symm
      replace hk4 := X5.k hk4 m3.symm
      replace hd4 := X5.k hd4 m5
      replace hr4 := X5.k hr4 (ne_of hr4 hw4 (by simp)); replace hh4 := X5.k hh4 (ne_of hh4 hw4 (by simp)); replace hw4 := X5.at_
      replace tr4 := tr4.tups X5.tu
      have hra5 := X5.tu _ _ hra4
      have e1 : putK (kvG sK nV m.whr) (Sum.inr x) (nV s) = kvG sK nV (aput m.whr x s) := putK_kvG (f := sK) (g := nV) sK_inj m.whr x s
      rw [e1] at hw4
      push_cast [hd4, lm_set, hc4, hra5]
      refine ⟨bigL (by rw [kvG_length]; omega), fun H6 X6 => ?_⟩
      replace hw4 := X6.k hw4 m2
      replace hk4 := X6.k hk4 m4.symm
      replace hd4 := X6.k hd4 m6
      replace hr4 := X6.k hr4 (ne_of hr4 hc4 (by simp)); replace hh4 := X6.k hh4 (ne_of hh4 hc4 (by simp)); replace hc4 := X6.at_
      replace tr4 := tr4.tups X6.tu
      have e2 : putK (kvG sK V.bl m.chg) (Sum.inr x) (V.bl true) = kvG sK V.bl (aput m.chg x true) := putK_kvG (f := sK) (g := V.bl) sK_inj m.chg x true
      rw [e2] at hc4
      have f46 : Fr ({ A with ha := ha' } : LA).fp H4 H6 := (X5.fr (by simp [LA.fp])).mu X6 (by simp [LA.fp])
      exact done H6 { A with ha := ha' } _ fe ⟨hd4, ⟨ys, hr4, tr4⟩, hw4, hc4, hh4, hk4, m1, m2, m3, m4, m5, m6, m7⟩ (N4.back f02) (f02.sub0.trans (f4.own N4.own f46))
  | «unless» z =>
    obtain ⟨ra, rfl, hra⟩ := tp2i ty
    obtain ⟨wks, hwa, hgw⟩ := vway W
    push_cast [hra]
    unfold t_L_follow_2; refine st_seq ?_
    push_cast
    refine ⟨(by simp only [List.length_cons, List.length_nil]; decide), fun q H1 A1 => ?_⟩
    push_cast [A1.at_]
    refine ⟨(by simp only [List.length_cons, List.length_nil]; decide), fun q2 H2 A2 => ?_⟩
    push_cast [A2.at_]
    have f02 : Fr [] H H2 := A1.fr.al A2
    have M2 := M0.keep0 f02
    have hd2 := f02.keep _ _ hd (by simp)
    have hh2 := f02.keep _ _ hh (by simp)
    have hwa2 := f02.keep _ _ hwa (by simp)
    match hf : m.hf, hn with
    | s :: h', _ =>
      rw [hf] at hh2
      have fe : fol code gk gw most m p = (match gw p with
          | some w => some ({ m with hf := h', rows := m.rows ++ [.so s w ({ m with hf := h' }.exit (if w then z else p + 1))] }, if w then p + 1 else z)
          | none => none) := by
        unfold fol
        rw [hr]
        simp only [endsIt, Bool.false_eq_true, or_false]
        rw [if_neg (by omega), hf]
        cases gw p <;> rfl
      refine st_seq ?_
      cases e : gw p with
      | none =>
        rw [e] at fe
        push_cast [hwa2, hgw, e, Option.map_none, Option.isSome_none]
        exact k2 H2 fe M2 f02.sub0
      | some w =>
        rw [e] at fe
        push_cast [hwa2, hgw, e, Option.map_some, Option.isSome_some]
        refine st_seq ?_
        push_cast [hd2, lm_half, hh2, Int.reduceNeg, atN1]
        refine st_seq ?_
        push_cast [hd2, lm_half, hh2, Int.reduceNeg, cutN1]
        intro ha' H3 A3
        push_cast [A3.k hd2]
        refine ⟨lm_len, fun H4 X4 => ?_⟩
        have hra4 := X4.tu _ _ (A3.k (f02.tu _ _ hra))
        have nwd : wa ≠ A.d := fun e => nwa (by rw [e]; simp [LA.fp])
        have hwa4 := X4.k (A3.k hwa2) nwd
        obtain ⟨M4, N4, f4⟩ := M2.halve A3 X4
        have ok4 : ({ m with hf := h' } : Mk).Ok := ⟨ok.rl, ok.kl, by have := ok.hl; rw [hf] at this; simp only [List.length_cons] at this ⊢; omega, ok.wn, ok.w8, ok.cn, ok.cw⟩
        push_cast
        refine st_seq ?_
        push_cast [hra4]
        refine ⟨(by simp only [List.length_cons, List.length_nil]; decide), fun gl H5 A5 => ?_⟩
        have hgl := A5.at_
        have M5 := M4.keep0 A5.fr
        refine st_seq ?_
        push_cast [A5.k hwa4, hgw, e, Option.map_some]
        have hd5 := M5.dic
        obtain ⟨ys, hr5, tr5⟩ := M5.rows
        have lys : ys.length = m.rows.length := by rw [tr5.length, List.length_map]
        simp only at hd5 hr5
        have e1 : atI [V.int ((z : Nat) : Int), V.int ((p : Int) + 1)] (1 - if w = true then 1 else 0) = some (.int ((if w then z else p + 1 : Nat) : Int)) := by
          cases w
          · exact atI1 _ _ _
          · exact atI0 _ _
        have e2 : atI [V.int ((z : Nat) : Int), V.int ((p : Int) + 1)] (if w = true then 1 else 0) = some (.int ((if w then p + 1 else z : Nat) : Int)) := by
          cases w
          · exact atI0 _ _
          · exact atI1 _ _ _
        refine st_seq ?_
        push_cast [hd5, lm_rows, hr5, hgl, e1]
        refine ⟨{ A with ha := ha' }, { m with hf := h' }, if w then z else p + 1, rfl, M5, ok4, fun v H6 tv f6 => ⟨(by simp only [List.length_cons, List.length_nil]; decide), fun t H7 A7 => ?_⟩⟩
        have hr7 := A7.k (f6.keep _ _ hr5 (by simp))
        have hgl7 := A7.k (f6.keep _ _ hgl (by simp))
        have ngl : gl ≠ A.ra := fun e => M4.there A.ra (by simp [LA.fp]) (by rw [← e]; exact A5.new)
        push_cast [hr7]
        refine ⟨bigL (by omega), fun H8 X8 => ?_⟩
        have M8 := ((M5.keep0 f6).keep0 A7.fr).addRow (q := .so s w ({ m with hf := h' }.exit (if w then z else p + 1))) hr7 ((tr5.tups f6.tu).tups A7.tu) (.tup A7.at_ (.cons (.str _) (.cons (.int _) (.cons (by cases w <;> exact .int _) (.cons (tv.tups A7.tu) .nil))))) X8
        push_cast [X8.k hgl7 ngl, e2]
        have f48 : Fr ({ A with ha := ha' } : LA).fp H4 H8 := ((A5.fr.trans f6.sub0).al A7).mu X8 (by simp [LA.fp])
        exact k1 H8 { A with ha := ha' } _ _ fe M8 (N4.back f02) (f02.sub0.trans (f4.own N4.own f48))

def LqInv (H0 : Hp) (A : LA) (vc : V) (ka wa : Addr) (gk : Nat → Option (Kd × Kd)) (gw : Nat → Option Bool) (code : List Rw) (hts : List Nat) (top most : Nat) (k : Nat) (σ : L2.St) (H : Hp) : Prop := ∃ (A' : LA) (m : Mk) (p : Nat) (v7 : Option V), σ = [some vc, some (.int (top : Nat)), some (.ref ka), some (.ref wa), some (.int (most : Nat)), some (.ref A.d), some (.int (p : Nat)), v7, none, none] ∧
  LmAt H A' m ∧ FolOk code hts most m p ∧ (∀ rows, Fol code gk gw most top m p rows → Quick code gk gw most top rows) ∧ LNx H0 A A' ∧ Fr A.fp H0 H ∧ nu code p < k
def PutL (H : Hp) (m : Mk) (L : Addr) (i : Nat) (Hc : Hp) : Prop := ∃ xs, Hc L = some (.lst xs) ∧ TpL Hc ((m.puts.take i).map Qr.d) xs ∧ Fr [] H Hc
theorem ends_wx (r : Rw) : inV (V.str r.wx) [V.str (wd 11), V.str (wd 12)] = endsIt r := by
  cases r with
  | op g => cases g <;> simp [inV_cons, inV_nil, eqV_str, Rw.wx, Sg.s, Sg.ix, wd_eq, endsIt]
  | _ => simp [inV_cons, inV_nil, eqV_str, Rw.wx, wd_eq, endsIt]
theorem rd_L_quick {K : PySem.W.Frag} {vs : List V} {H : Hp} {Q : VK} {E : XK} (h : sp_L_quick vs H Q E) : t_L_quick K { nx := fun _ H' => Q .non H', rt := Q } (start ["_", "_", "_", "_", "_", "_", "_", "_", "_", "_"] vs) H := by
  obtain ⟨vc, code, hts, top, most, ka, wa, gk, gw, rfl, tc, T, ht, hm, G, W, k⟩ := h
  show t_L_quick K _ [some vc, some (.int (top : Nat)), some (.ref ka), some (.ref wa), some (.int (most : Nat)), none, none, none, none, none] H
  have ltop : top < code.length := (List.getElem?_eq_some_iff.mp ht).1
  obtain ⟨r0, k0, g1, g2, g3, _, _⟩ := T.rows top ltop
  rw [ht] at g1
  cases g1
  have z1 : hts[top + 1]? = some 0 := g3.2
  have ok0 : Mk0.Ok := ⟨by decide, by decide, by decide, by simp [Mk0], (fun x hx => by cases hx), by simp [Mk0], (fun x hx => by cases hx)⟩
  unfold t_L_quick; refine st_seq ?_
  push_cast [tDisp, tPairs]
  intro d hd
  have A0 := Al.of (o := HO.dK []) hd
  refine ⟨(by simp only [List.length_cons, List.length_nil]; decide), fun t0 H1 A1 => ⟨(by simp only [List.length_cons, List.length_nil]; decide), fun ra H2 A2 sl H3 A3 se H4 A4 => ⟨(by simp only [List.length_cons, List.length_nil]; decide), fun hf H5 A5 kn H6 A6 => ?_⟩⟩⟩
  have hd6 := A6.k (A5.k (A4.k (A3.k (A2.k (A1.k A0.at_)))))
  have F6 : Fr [] H H6 := (((((A0.fr.al A1).al A2).al A3).al A4).al A5).al A6
  have nsl : d ≠ sl := ne_of_none (A2.k (A1.k A0.at_)) A3.new
  have nse : d ≠ se := ne_of_none (A3.k (A2.k (A1.k A0.at_))) A4.new
  have nkn : d ≠ kn := ne_of_none (A5.k (A4.k (A3.k (A2.k (A1.k A0.at_))))) A6.new
  have n1 : ra ≠ hf := ne_of_none (A4.k (A3.k A2.at_)) A5.new
  have n2 : sl ≠ se := ne_of_none A3.at_ A4.new
  have n3 : sl ≠ kn := ne_of_none (A5.k (A4.k A3.at_)) A6.new
  have n4 : se ≠ kn := ne_of_none (A5.k A4.at_) A6.new
  refine ⟨hd6, lmK ⟨d, ra, sl, se, hf, kn⟩ 0, rfl, Nat.le_of_ble_eq_true rfl, ?_⟩
  have eM : mergeK [] (lmK ⟨d, ra, sl, se, hf, kn⟩ 0) = lmK ⟨d, ra, sl, se, hf, kn⟩ 0 := rfl
  rw [eM]
  generalize hH7 : upd H6 d (HO.dK (lmK ⟨d, ra, sl, se, hf, kn⟩ 0)) = H7
  have X7 : Mu H6 d (.dK (lmK ⟨d, ra, sl, se, hf, kn⟩ 0)) H7 := by rw [← hH7]; exact Mu.of hd6 fun _ z => by cases z
  have hra : H6 ra = some (.lst [.ref t0]) := A6.k (A5.k (A4.k (A3.k A2.at_)))
  have hsl : H6 sl = some (.dK []) := A6.k (A5.k (A4.k A3.at_))
  have hse : H6 se = some (.dK []) := A6.k (A5.k A4.at_)
  have hhf : H6 hf = some (.lst []) := A6.k A5.at_
  have M7 : LmAt H7 ⟨d, ra, sl, se, hf, kn⟩ Mk0 := ⟨X7.at_, ⟨_, X7.k hra (ne_of hra hd6 (by simp)), .cons (.tup (X7.tu _ _ (A6.k (A5.k (A4.k (A3.k (A2.k A1.at_)))))) (.cons (.str _) .nil)) .nil⟩, X7.k hsl nsl.symm, X7.k hse nse.symm, X7.k hhf (ne_of hhf hd6 (by simp)), X7.k A6.at_ nkn.symm, n1, n2, n3, n4, nsl, nse, nkn⟩
  have F7 : Fr [] H H7 := F6.muN X7 hd
  have fpn : ∀ x ∈ LA.fp ⟨d, ra, sl, se, hf, kn⟩, H x = none := by
    intro x hx
    simp only [LA.fp, List.mem_cons, List.not_mem_nil, or_false] at hx
    rcases hx with rfl | rfl | rfl | rfl | rfl | rfl
    · exact hd
    · exact (A0.fr (S := [])).al A1 |>.free A2.new (by simp)
    · exact ((A0.fr (S := [])).al A1).al A2 |>.free A3.new (by simp)
    · exact (((A0.fr (S := [])).al A1).al A2).al A3 |>.free A4.new (by simp)
    · exact ((((A0.fr (S := [])).al A1).al A2).al A3).al A4 |>.free A5.new (by simp)
    · exact (((((A0.fr (S := [])).al A1).al A2).al A3).al A4).al A5 |>.free A6.new (by simp)
  obtain ⟨kk0, hkk, _⟩ := G.dic
  obtain ⟨ww0, hww, _⟩ := W.dic
  have nka : ka ∉ LA.fp ⟨d, ra, sl, se, hf, kn⟩ := fun hz => by have := fpn _ hz; rw [hkk] at this; cases this
  have nwa : wa ∉ LA.fp ⟨d, ra, sl, se, hf, kn⟩ := fun hz => by have := fpn _ hz; rw [hww] at this; cases this
  replace G := G.keep F7 (by simp)
  replace W := W.keep F7 (by simp)
  replace tc := tc.tups F7.tu
  obtain ⟨A, eA⟩ : ∃ A : LA, A = ⟨d, ra, sl, se, hf, kn⟩ := ⟨_, rfl⟩
  rw [← eA] at M7 fpn nka nwa
  have edA : A.d = d := by rw [eA]
  have base : ∀ {H' : Hp}, Fr A.fp H7 H' → Fr [] H H' := fun {H'} f => ⟨fun b u h _ => f.keep b u (F7.keep b u h (by simp)) fun hz => (by rw [fpn b hz] at h; cases h), fun b ys h => f.tups b ys (F7.tups b ys h)⟩
  push_cast
  unfold t_L_quick_1; refine st_seq ?_
  push_cast
  unfold t_L_quick_2; refine st_seq ?_
  refine ⟨LqInv H7 A vc ka wa gk gw code hts top most, ⟨nu code (top + 1) + 1, A, Mk0, top + 1, none, by rw [edA]; simp only [Int.natCast_add]; rfl, M7, ⟨ok0, z1, by simp [Mk0]⟩, fun rows h => h, .refl _ _, .refl _ _, Nat.lt_succ_self _⟩, ?_⟩
  rintro kk σ H8 ⟨A', m, p, v7, rfl, M8, fo, acc, N8, f8, mk⟩
  obtain ⟨ha', eA', _⟩ := id N8
  have ed : A'.d = A.d := by rw [eA']
  have ngo : ∀ x, H7 x ≠ none → x ∉ A.fp → x ∉ A'.fp := fun x hx hn hz => (N8.own x hz).elim hn hx
  have G8 := G.keep f8 nka
  have W8 := W.keep f8 nwa
  have nka8 : ka ∉ A'.fp := by obtain ⟨ks, hks, _⟩ := G.dic; exact ngo _ (by rw [hks]; simp) nka
  have nwa8 : wa ∉ A'.fp := by obtain ⟨ks, hks, _⟩ := W.dic; exact ngo _ (by rw [hks]; simp) nwa
  have tc8 := tc.tups f8.tu
  have lp : p < code.length := by rw [← T.len]; exact (List.getElem?_eq_some_iff.mp fo.ht).1
  have rl := fo.rl
  have hd8 := M8.dic
  rw [ed] at hd8
  obtain ⟨xs8, hr8, tr8⟩ := M8.rows
  have lx8 : xs8.length = m.rows.length := by rw [tr8.length, List.length_map]
  simp only [tTest, tOp, tVar, rNe]
  refine ⟨_, rfl, _, rfl, rfl, _, rfl, ?_⟩
  by_cases hpt : p = top
  · subst hpt
    rw [decide_eq_true rfl]
    refine iteF ?_
    have lput := puts_len m fo.ok
    show t_L_quick_3 K _ _ _
    unfold t_L_quick_3; refine st_seq ?_
    refine lsrt_it M8 fo.ok (by rw [ed]; rfl) fun q H9 h9 nq f9 => ?_
    have M9 := M8.keep0 f9
    refine ⟨q, rfl, ⟨_, SqL.of h9⟩, fun L hL => ?_⟩
    have B0 := Al.of (o := HO.lst []) hL
    refine lc_it (walk_list (xs := (srt (m.chg.map (·.1))).map V.str)) (PutL H9 m L) ⟨[], B0.at_, by simp only [List.take_zero, List.map_nil]; exact .nil, B0.fr⟩ ?_ ?_ ?_
    · rintro i Hc _ ⟨xs, h1, h2, h3⟩
      exact SqL.of (h3.keep _ _ h9 (by simp))
    · rintro i x Hc H' hi ⟨xs, h1, h2, h3⟩ ⟨rfl, hx⟩
      obtain ⟨z, hz, rfl⟩ := map_get hx
      have mz : z ∈ m.chg.map (·.1) := (srt_perm _).subset (mem_of_get hz)
      obtain ⟨hdc, _, hwc, _⟩ := M9.keep0 h3
      rw [ed] at hdc
      push_cast [wipe, tYes, hdc, lm_slots, hwc, get_where fo.ok mz]
      refine ⟨(by simp only [List.length_cons, List.length_nil]; decide), fun t H2 A2 => ?_⟩
      have h1' := A2.k h1
      have MM := Mu.of (o := .lst (xs ++ [.ref t])) h1' fun _ z => by cases z
      have e : m.puts[i]? = some (.put z ((aget m.whr z).getD 0)) := by
        unfold Mk.puts
        rw [List.getElem?_map, hz]; rfl
      refine ⟨xs, h1', bigL (by rw [h2.length, List.length_map, List.length_take]; unfold Mk.puts; rw [List.length_map]; omega), xs ++ [.ref t], MM.at_, ?_, (h3.al A2).muN MM hL⟩
      rw [take_snoc e, List.map_append]
      exact ((h2.tups A2.tu).snoc (.tup A2.at_ (.cons (.str _) (.cons (.str _) (.cons (.int _) .nil))))).tups MM.tu
    · rintro Hc ⟨xs, h1, h2, h3⟩
      have e : m.puts.take ((srt (m.chg.map (·.1))).map V.str).length = m.puts := by
        rw [List.take_of_length_le]
        unfold Mk.puts
        simp
      rw [e] at h2
      have Mc := M9.keep0 h3
      obtain ⟨hdc, ⟨ys, hrc, trc⟩, _⟩ := Mc
      rw [ed] at hdc
      have ly : ys.length = m.rows.length := by rw [trc.length, List.length_map]
      have lx : xs.length ≤ 8 := by rw [h2.length, List.length_map]; unfold Mk.puts; rw [List.length_map]; exact lput
      push_cast
      push_cast [hdc, lm_rows, hrc, h1]
      refine ⟨Nat.le_of_lt (bigL (by omega)), fun c1 G1 B1 => ?_⟩
      refine ⟨(by simp only [List.length_cons, List.length_nil]; decide), fun t1 G2 B2 => ⟨(by simp only [List.length_cons, List.length_nil]; decide), fun l1 G3 B3 => ?_⟩⟩
      push_cast [B3.k (B2.k B1.at_), B3.at_]
      refine ⟨by rw [List.length_append]; simp only [List.length_cons, List.length_nil]; exact Nat.le_of_lt (bigL (by omega)), fun c2 G4 B4 => ?_⟩
      push_cast [B4.at_]
      intro c3 G5 B5
      have F5 : Fr [] Hc G5 := ((((B1.fr.al B2).al B3).al B4).al B5)
      refine k _ (m.rows ++ m.puts ++ [.again]) G5 (acc _ (.close m)) ?_ (.tup B5.at_ ?_) (base ((f8.trans (f9.trans h3).sub0).trans F5.sub0))
      · simp only [List.length_append, len1, Mk.puts, List.length_map]
        omega
      · rw [List.map_append, List.map_append]
        exact ((trc.tups F5.tu).append (h2.tups F5.tu)).append (.cons (.tup (B5.k (B4.k (B3.k B2.at_))) (.cons (.str _) .nil)) .nil)
  · rw [decide_eq_false (by simp only [V.int.injEq]; omega)]
    refine iteT ⟨fun σ' H' => ∃ k', k' < kk ∧ LqInv H7 A vc ka wa gk gw code hts top most k' σ' H', fun _ _ h => h, ?_⟩
    obtain ⟨r, kh, h1, h2, h3, h4, h5⟩ := T.rows p lp
    have eh := fo.ht
    rw [h2] at eh
    cases eh
    obtain ⟨ca, rows, y, rfl, hca, _, hix, ty⟩ := code_at tc8 h1
    obtain ⟨rr, ys, rfl, hrr⟩ := tp_rw ty
    have lv : fol code gk gw most m p = none → ∀ H9, LmAt H9 A' m → Fr A.fp H7 H9 → ∀ {N bk : L2.St → Hp → Prop}, tSeq (tIfS (tTest (tOp (rI0 fun i j => .bl (decide (i < j))) (tVar 7) (tC (.int 0)))) (tRet (tCB rTupL (tCons (tOp rCt (tOp rGetS (tVar 5) (tC (.str (wd 36)))) (xLst (tCons (xTup (tCons (tC (.str (wd 22))) (tCons (tCall sp_L_exit [] E0 (tCons (tVar 5) (tCons (tVar 6) tNil))) tNil))) tNil))) tNil))) tNext)
        (tAsg (tVar 7) (gName 6)) { nx := N, rt := Q, bk := bk, ct := N } [some (.ref ca), some (.int (top : Nat)), some (.ref ka), some (.ref wa), some (.int (most : Nat)), some (.ref A.d), some (.int (p : Nat)), some (.int (-1)), none, none] H9 := by
      intro hn H9 M9 f9 N bk
      have hd9 := M9.dic
      rw [ed] at hd9
      obtain ⟨zs, hr9, tr9⟩ := M9.rows
      have lz : zs.length = m.rows.length := by rw [tr9.length, List.length_map]
      refine st_seq ?_
      push_cast
      rw [if_pos (by decide)]
      push_cast [hd9, lm_rows]
      refine ⟨A', m, p, by rw [ed], M9, fo.ok, fun v G1 tv g1 => ⟨(by simp only [List.length_cons, List.length_nil]; decide), fun t1 G2 B2 => ⟨(by simp only [List.length_cons, List.length_nil]; decide), fun l1 G3 B3 => ?_⟩⟩⟩
      have g3 : Fr [] H9 G3 := (g1.al B2).al B3
      push_cast [g3.keep _ _ hr9 (by simp), B3.at_]
      refine ⟨by simp only [List.length_cons, List.length_nil]; exact Nat.le_of_lt (bigL (by omega)), fun c2 G4 B4 => ?_⟩
      push_cast [B4.at_]
      intro c3 G5 B5
      have g5 : Fr [] H9 G5 := (g3.al B4).al B5
      refine k _ (m.rows ++ [.leave (m.exit p)]) G5 (acc _ (.leave hpt hn)) (by simp only [List.length_append, len1]; omega) (.tup B5.at_ ?_) (base (f9.trans g5.sub0))
      rw [List.map_append]
      exact (tr9.tups g5.tu).append (.cons (.tup (B5.k (B4.k (B3.k B2.at_))) (.cons (.str _) (.cons ((((tv.tups B2.tu).tups B3.tu).tups B4.tu).tups B5.tu) .nil))) .nil)
    have nxt : ∀ (m' : Mk) (p' : Nat) (A9 : LA) (H9 : Hp), fol code gk gw most m p = some (m', p') → LmAt H9 A9 m' → LNx H8 A' A9 → Fr A'.fp H8 H9 →
        ∃ k', k' < kk ∧ LqInv H7 A (.ref ca) ka wa gk gw code hts top most k' [some (.ref ca), some (.int (top : Nat)), some (.ref ka), some (.ref wa), some (.int (most : Nat)), some (.ref A.d), some (.int (p' : Nat)), some (.int (p' : Nat)), none, none] H9 := by
      intro m' p' A9 H9 hf M9 N9 f9
      obtain ⟨o1, o2, o3⟩ := fol_ok T hm fo hf
      exact ⟨nu code p, mk, A9, m', p', _, rfl, M9, o1, fun rows h => acc rows (.next hpt hf h), N8.trans f8 M8.there N9, f8.own N8.own f9, nu_lt lp o2 o3⟩
    refine st_seq ?_
    push_cast
    refine st_seq ?_
    push_cast [hca, hix, hrr]
    refine ⟨(by simp only [List.length_cons, List.length_nil]; decide), fun q H9 A9 => ⟨_, A9.at_, rfl, ?_⟩⟩
    rw [ends_wx]
    have M9 := M8.keep0 A9.fr
    have f9 : Fr A.fp H7 H9 := f8.al A9
    cases he : endsIt r with
    | true =>
      rw [if_neg (by decide)]
      exact lv (by unfold fol; rw [h1]; simp [he]) H9 M9 f9
    | false =>
      rw [if_pos rfl]
      push_cast [A9.k hd8, lm_rows, A9.k hr8]
      refine i2 (fun hlt => ?_) fun hlt => ?_
      · have hlt' : m.rows.length < most := by omega
        refine ⟨A', m, _, code, p, most, r, ka, wa, gk, gw, by rw [ed], M9, fo.ok, G8.keep (A9.fr (S := [])) (by simp), W8.keep (A9.fr (S := [])) (by simp), nka8, nwa8, tc8.tups A9.tu, h1, h3.need, h4, he, hlt', hm, fun G1 A1 m' p' hf' M1 N1 g1 => ?_, fun G1 hf' M1 g1 => ?_⟩
        · refine st_seq ?_
          push_cast
          rw [if_neg (by omega)]
          exact nxt m' p' A1 G1 hf' M1 (N1.back A9.fr) (A9.fr.trans g1)
        · exact lv hf' G1 M1 (f9.own N8.own g1)
      · exact lv (by unfold fol; rw [h1]; simp only; rw [if_pos (.inl (by omega))]) H9 M9 f9

/-! the machine: a mirror -/
/-! ### states that are the same but for the order of names -/
theorem SameS.refl (s : MS) : SameS s s := ⟨rfl, rfl, rfl, rfl, rfl, fun _ => rfl⟩
theorem SameS.trans {a b c : MS} (x : SameS a b) (y : SameS b c) : SameS a c := ⟨x.place.trans y.place, x.st.trans y.st, x.left.trans y.left, x.said.trans y.said, x.last.trans y.last, fun z => (x.nm z).trans (y.nm z)⟩
theorem SameS.stepR {t s : MS} (h : SameS t s) (r : Rw) : SameS (stepR r t) (stepR r s) := by
  obtain ⟨n1, s1, p1, l1, d1, e1⟩ := t
  obtain ⟨n2, s2, p2, l2, d2, e2⟩ := s
  obtain ⟨h1, h2, h3, h4, h5, h6⟩ := h
  simp only at h1 h2 h3 h4 h5 h6
  subst h1 h2 h3 h4 h5
  unfold Hn.stepR
  cases r with
  | num n => exact ⟨rfl, rfl, rfl, rfl, rfl, h6⟩
  | text n => exact ⟨rfl, rfl, rfl, rfl, rfl, h6⟩
  | name n => exact ⟨rfl, by simp only [ngetD, h6], rfl, rfl, rfl, h6⟩
  | op g =>
    match s1 with
    | [] => exact ⟨rfl, rfl, rfl, rfl, rfl, h6⟩
    | [_] => exact ⟨rfl, rfl, rfl, rfl, rfl, h6⟩
    | y :: x :: q =>
      simp only
      split <;> exact ⟨rfl, rfl, rfl, rfl, rfl, h6⟩
  | say =>
    match s1 with
    | [] => exact ⟨rfl, rfl, rfl, rfl, rfl, h6⟩
    | y :: q => exact ⟨rfl, rfl, rfl, rfl, rfl, h6⟩
  | set x =>
    match s1 with
    | [] => exact ⟨rfl, rfl, rfl, rfl, rfl, h6⟩
    | y :: q => exact ⟨rfl, rfl, rfl, rfl, rfl, fun z => by simp only [nget_put, h6]⟩
  | «unless» x =>
    match s1 with
    | [] => exact ⟨rfl, rfl, rfl, rfl, rfl, h6⟩
    | y :: q => exact ⟨rfl, rfl, rfl, rfl, rfl, h6⟩
  | go z => exact ⟨rfl, rfl, rfl, rfl, rfl, h6⟩
  | top => simp only; split <;> exact ⟨rfl, rfl, rfl, rfl, rfl, h6⟩
  | fin => exact ⟨rfl, rfl, rfl, rfl, rfl, h6⟩
theorem SameS.step {t s : MS} (h : SameS t s) (code : List Rw) : SameS (step code t) (step code s) := by
  unfold Hn.step
  rw [h.place]
  split
  · exact h.stepR _
  · exact h
theorem SameS.reach {code : List Rw} {s s' : MS} (r : Reach code s s') : ∀ {t : MS}, SameS t s → ∃ t', Reach code t t' ∧ SameS t' s' := by
  induction r with
  | refl s => intro t h; exact ⟨t, .refl _, h⟩
  | step hl _ ih =>
    intro t h
    obtain ⟨t', r', h'⟩ := ih (h.step code)
    exact ⟨t', .step (h.last.trans hl) r', h'⟩
theorem SameS.bd {code : List Rw} {t s : MS} (h : SameS t s) (b : Bd code t) : Bd code s := fun u r => by
  obtain ⟨t', r', h'⟩ := SameS.reach r h
  rw [← h'.said]
  exact b t' r'
theorem SameS.inn {code : List Rw} {hts : List Nat} {x : Nat} {t s : MS} (h : SameS t s) (ok : s.ok) (i : In code hts x t) : In code hts x s := by
  obtain ⟨k, h1, h2⟩ := i.at_
  exact ⟨ok, k, by rw [← h.place]; exact h1, by rw [← h.st]; exact h2⟩
theorem reach_mu {code : List Rw} {hts : List Nat} {x : Nat} {s t : MS} (T : Ty code hts) (r : Reach code s t) : In code hts x s → 0 ≤ s.left → t.last = none → s = t ∨ mu code t < mu code s := by
  induction r with
  | refl s => intro _ _ _; exact .inl rfl
  | step h r ih =>
    rename_i s t
    intro i h0 hl
    have hs : (step code s).last = none := by
      cases e : (step code s).last with
      | none => rfl
      | some l => have := r.ended (by rw [e]; simp); rw [this, e] at hl; cases hl
    have m := mu_step T i h0 hs
    rcases ih (i.step T) m.2 hl with e | e
    · rw [← e]; exact .inr m.1
    · exact .inr (by omega)
theorem reach_left {code : List Rw} {hts : List Nat} {x : Nat} {s t : MS} (T : Ty code hts) (r : Reach code s t) : In code hts x s → 0 ≤ s.left → t.last = none → 0 ≤ t.left := by
  induction r with
  | refl s => intro _ h _; exact h
  | step h r ih =>
    rename_i s t
    intro i h0 hl
    have hs : (step code s).last = none := by
      cases e : (step code s).last with
      | none => rfl
      | some l => have := r.ended (by rw [e]; simp); rw [this, e] at hl; cases hl
    exact ih (i.step T) (mu_step T i h0 hs).2 hl
/-! ### notes -/
structure Nt where
  gk : Nat → Option (Kd × Kd)
  gw : Nat → Option Bool
  tops : Nat → Nat
def Nt.seeR (r : Rw) (s : MS) (n : Nt) : Nt := match r with
  | .op g => (match s.st with
    | y :: x :: _ => if g = .same then n else { n with gk := fun j => if j = s.place then some (x.kind, y.kind) else n.gk j }
    | _ => n)
  | .unless _ => (match s.st with
    | y :: _ => { n with gw := fun j => if j = s.place then some y.so else n.gw j }
    | _ => n)
  | .top => { n with tops := fun j => if j = s.place then n.tops j + 1 else n.tops j }
  | _ => n
def Nt.see (code : List Rw) (s : MS) (n : Nt) : Nt := match code[s.place]? with
  | some r => n.seeR r s
  | none => n
theorem see_at {code : List Rw} {s : MS} {r : Rw} {n : Nt} (h : code[s.place]? = some r) : n.see code s = n.seeR r s := by
  unfold Nt.see
  rw [h]
def Nt.forget (n : Nt) (p : Nat) : Nt := { n with tops := fun j => if j = p then 0 else n.tops j }
/-! ### the machine -/
structure Lim where
  hot : Nat
  pat : Nat
  room : Nat
structure MC where
  s : MS
  nt : Nt
  ready : Nat → Option (List Qr)
  fell : Nat → Nat
  made : Nat
  falls : Nat
def isLeave : Qr → Bool
  | .leave _ => true
  | _ => false
def MC.seen (code : List Rw) (c : MC) : Nt := c.nt.see code c.s
inductive MStep (code : List Rw) (L : Lim) : MC → MC → Prop
  | plain {c : MC} : c.s.last = none → c.ready c.s.place = none → (isTop code c.s.place = true → (c.seen code).tops c.s.place < L.hot) → MStep code L c { c with nt := c.seen code, s := step code c.s }
  | make {c : MC} {rows : List Qr} : c.s.last = none → c.ready c.s.place = none → isTop code c.s.place = true → L.hot ≤ (c.seen code).tops c.s.place → Quick code (c.seen code).gk (c.seen code).gw L.room c.s.place rows → rows.length ≤ L.room + 20 →
      MStep code L c { c with nt := c.seen code, s := step code c.s, ready := fun j => if j = c.s.place then some rows else c.ready j, fell := fun j => if j = c.s.place then 0 else c.fell j, made := c.made + 1 }
  | over {c : MC} {rows : List Qr} {d : QC} {s' : MS} : c.s.last = none → c.ready c.s.place = some rows → QReach rows ⟨c.s, [], 0⟩ d → qstep rows d = .over s' → MStep code L c { c with s := s' }
  | left {c : MC} {rows : List Qr} {d : QC} {n : Nat} {s' : MS} {r : Qr} : c.s.last = none → c.ready c.s.place = some rows → QReach rows ⟨c.s, [], 0⟩ d → qstep rows d = .fall n s' → rows[n]? = some r → isLeave r = true → MStep code L c { c with s := s' }
  | fell {c : MC} {rows : List Qr} {d : QC} {n : Nat} {s' : MS} {r : Qr} : c.s.last = none → c.ready c.s.place = some rows → QReach rows ⟨c.s, [], 0⟩ d → qstep rows d = .fall n s' → rows[n]? = some r → isLeave r = false → c.fell c.s.place + 1 ≤ L.pat →
      MStep code L c { c with s := s', fell := fun j => if j = c.s.place then c.fell j + 1 else c.fell j, falls := c.falls + 1 }
  | drop {c : MC} {rows : List Qr} {d : QC} {n : Nat} {s' : MS} {r : Qr} : c.s.last = none → c.ready c.s.place = some rows → QReach rows ⟨c.s, [], 0⟩ d → qstep rows d = .fall n s' → rows[n]? = some r → isLeave r = false → L.pat < c.fell c.s.place + 1 →
      MStep code L c { c with s := s', fell := fun j => if j = c.s.place then c.fell j + 1 else c.fell j, falls := c.falls + 1, ready := fun j => if j = c.s.place then none else c.ready j, nt := c.nt.forget c.s.place }
inductive MReach (code : List Rw) (L : Lim) : MC → MC → Prop
  | refl (c : MC) : MReach code L c c
  | step {c d e : MC} : MStep code L c d → MReach code L d e → MReach code L c e
theorem MReach.trans {code : List Rw} {L : Lim} {a b c : MC} (x : MReach code L a b) (y : MReach code L b c) : MReach code L a c := by
  induction x with
  | refl => exact y
  | step h _ ih => exact .step h (ih y)
theorem MReach.snoc {code : List Rw} {L : Lim} {a b c : MC} (x : MReach code L a b) (h : MStep code L b c) : MReach code L a c := x.trans (.step h (.refl _))
theorem MStep.last {code : List Rw} {L : Lim} {a b : MC} (x : MStep code L a b) : a.s.last = none := by cases x <;> assumption
/-- a machine on its way from s0 -/
structure MGood (code : List Rw) (hts : List Nat) (s0 : MS) (L : Lim) (c : MC) : Prop where
  in_ : In code hts 0 c.s
  left : c.s.last = none → 0 ≤ c.s.left
  bd : Bd code c.s
  rdy : ∀ p rows, c.ready p = some rows → code[p]? = some .top ∧ rows.length ≤ L.room + 20 ∧ ∃ gk gw, Quick code gk gw L.room p rows
  sim : ∃ τ, Reach code s0 τ ∧ SameS τ c.s
section
variable {code : List Rw} {hts : List Nat} {s0 : MS} {L : Lim}
theorem MGood.quick {c : MC} {rows : List Qr} (T : Ty code hts) (hr : L.room ≤ 40000) (g : MGood code hts s0 L c) (hl : c.s.last = none) (h : c.ready c.s.place = some rows) : rows[0]? = some .turn ∧ QEnds rows (FF code (step code c.s)) (OO code (step code c.s)) ⟨c.s, [], 0⟩ := by
  obtain ⟨h1, h2, gk, gw, q⟩ := g.rdy _ _ h
  exact quick_plain T h1 q (by omega) g.in_ rfl hl g.bd
/-- where quick rows come to -/
theorem MGood.to {c : MC} {s' t : MS} (T : Ty code hts) (g : MGood code hts s0 L c) (hl : c.s.last = none) (ok : s'.ok) (r : Reach code (step code c.s) t) (same : SameS t s') (h0 : s'.last = none → 0 ≤ s'.left) :
    In code hts 0 s' ∧ (s'.last = none → 0 ≤ s'.left) ∧ Bd code s' ∧ ∃ τ, Reach code s0 τ ∧ SameS τ s' := by
  obtain ⟨τ, r1, s1⟩ := g.sim
  have rc : Reach code c.s t := .step hl r
  obtain ⟨t', r', s''⟩ := SameS.reach rc s1
  exact ⟨same.inn ok (rc.in_ T g.in_), h0, same.bd (g.bd.reach rc), t', r1.trans r', s''.trans same⟩
theorem MStep.good {c d : MC} (T : Ty code hts) (hr : L.room ≤ 40000) (g : MGood code hts s0 L c) (h : MStep code L c d) : MGood code hts s0 L d ∧ (d.s.last = none → mu code d.s < mu code c.s) := by
  have hl := h.last
  have pl : In code hts 0 (step code c.s) ∧ ((step code c.s).last = none → 0 ≤ (step code c.s).left) ∧ Bd code (step code c.s) ∧ (∃ τ, Reach code s0 τ ∧ SameS τ (step code c.s)) ∧ ((step code c.s).last = none → mu code (step code c.s) < mu code c.s) := by
    obtain ⟨τ, r1, s1⟩ := g.sim
    exact ⟨g.in_.step T, fun z => (mu_step T g.in_ (g.left hl) z).2, g.bd.reach (.one hl), ⟨_, r1.snoc (s1.last.trans hl), s1.step code⟩, fun z => (mu_step T g.in_ (g.left hl) z).1⟩
  have fl : ∀ {rows : List Qr} {d : QC} {n : Nat} {s' : MS}, c.ready c.s.place = some rows → QReach rows ⟨c.s, [], 0⟩ d → qstep rows d = .fall n s' → (In code hts 0 s' ∧ (s'.last = none → 0 ≤ s'.left) ∧ Bd code s' ∧ ∃ τ, Reach code s0 τ ∧ SameS τ s') ∧ (s'.last = none → mu code s' < mu code c.s) := by
    intro rows d n s' hp re hq
    obtain ⟨_, E⟩ := g.quick T hr hl hp
    obtain ⟨ok, t, rt, lt, same⟩ := E.fell re hq
    have i1 := g.in_.step T
    have ls : (step code c.s).last = none := by
      cases e : (step code c.s).last with
      | none => rfl
      | some l => have := rt.ended (by rw [e]; simp); rw [this, e] at lt; cases lt
    have m1 := mu_step T g.in_ (g.left hl) ls
    have h0 := reach_left T rt i1 m1.2 lt
    refine ⟨g.to T hl ok rt same fun _ => by rw [← same.left]; exact h0, fun _ => ?_⟩
    have e : mu code s' = mu code t := by unfold mu; rw [same.place, same.left]
    rw [e]
    rcases reach_mu T rt i1 m1.2 lt with z | z
    · rw [← z]; exact m1.1
    · exact Nat.lt_trans z m1.1
  cases h with
  | plain h1 h2 h3 =>
    obtain ⟨a, b, b', s', m⟩ := pl
    exact ⟨⟨a, b, b', g.rdy, s'⟩, m⟩
  | make h1 h2 h3 h4 h5 h6 =>
    obtain ⟨a, b, b', s', m⟩ := pl
    refine ⟨⟨a, b, b', fun p rws hp => ?_, s'⟩, m⟩
    simp only at hp
    split at hp
    · next e => cases hp; subst e; exact ⟨isTop_iff.mp h3, h6, _, _, h5⟩
    · exact g.rdy p rws hp
  | over h1 h2 h3 h4 =>
    obtain ⟨_, E⟩ := g.quick T hr hl h2
    obtain ⟨ok, lneg, t, rt, lt, same⟩ := E.ended h3 h4
    obtain ⟨a, b, b', s'⟩ := g.to T hl ok rt same fun z => absurd (same.last.trans z) lt
    exact ⟨⟨a, b, b', g.rdy, s'⟩, fun z => absurd (same.last.trans z) lt⟩
  | left h1 h2 h3 h4 h5 h6 =>
    obtain ⟨⟨a, b, b', s'⟩, m⟩ := fl h2 h3 h4
    exact ⟨⟨a, b, b', g.rdy, s'⟩, m⟩
  | fell h1 h2 h3 h4 h5 h6 h7 =>
    obtain ⟨⟨a, b, b', s'⟩, m⟩ := fl h2 h3 h4
    exact ⟨⟨a, b, b', g.rdy, s'⟩, m⟩
  | drop h1 h2 h3 h4 h5 h6 h7 =>
    obtain ⟨⟨a, b, b', s'⟩, m⟩ := fl h2 h3 h4
    refine ⟨⟨a, b, b', fun p rws hp => ?_, s'⟩, m⟩
    simp only at hp
    split at hp
    · cases hp
    · exact g.rdy p rws hp
end
/-- nothing noted, nothing made -/
def Nt0 : Nt := ⟨fun _ => none, fun _ => none, fun _ => 0⟩
def MC0 (s : MS) (nt : Nt) : MC := ⟨s, nt, fun _ => none, fun _ => 0, 0, 0⟩
theorem good0 {code : List Rw} {hts : List Nat} {s : MS} {L : Lim} {nt : Nt} (i : In code hts 0 s) (h0 : 0 ≤ s.left) (bd : Bd code s) : MGood code hts s L (MC0 s nt) := ⟨i, fun _ => h0, bd, fun _ _ z => (by cases z), s, .refl _, .refl _⟩

/-! notes and the machine in the heap: promises -/
structure TopAt (H : Hp) (a : Addr) (f : Nat → Nat) : Prop where
  dic : ∃ ks, H a = some (.dK ks) ∧ ∀ p : Nat, (valV ks (nK p)).getD (.int 0) = .int (f p : Nat)
structure RdyAt (H : Hp) (a : Addr) (f : Nat → Option (List Qr)) : Prop where
  dic : ∃ ks, H a = some (.dK ks) ∧ ∀ p : Nat, (f p = none → valV ks (nK p) = none) ∧ ∀ r, f p = some r → ∃ v, valV ks (nK p) = some v ∧ Tp H (quickD r) v
structure FelAt (H : Hp) (a : Addr) (f : Nat → Option (List Qr)) (g : Nat → Nat) : Prop where
  dic : ∃ ks, H a = some (.dK ks) ∧ ∀ p : Nat, f p ≠ none → valV ks (nK p) = some (.int (g p : Nat))
section
variable {H H' : Hp} {a : Addr} {S : List Addr}
theorem TopAt.keep {f : Nat → Nat} (k : TopAt H a f) (g : Fr S H H') (h : a ∉ S) : TopAt H' a f := by
  obtain ⟨ks, h1, h2⟩ := k.dic
  exact ⟨ks, g.keep _ _ h1 h, h2⟩
theorem RdyAt.keep {f : Nat → Option (List Qr)} (k : RdyAt H a f) (g : Fr S H H') (h : a ∉ S) : RdyAt H' a f := by
  obtain ⟨ks, h1, h2⟩ := k.dic
  refine ⟨ks, g.keep _ _ h1 h, fun p => ⟨(h2 p).1, fun r e => ?_⟩⟩
  obtain ⟨v, h3, h4⟩ := (h2 p).2 r e
  exact ⟨v, h3, h4.tups g.tu⟩
theorem FelAt.keep {f : Nat → Option (List Qr)} {x : Nat → Nat} (k : FelAt H a f x) (g : Fr S H H') (h : a ∉ S) : FelAt H' a f x := by
  obtain ⟨ks, h1, h2⟩ := k.dic
  exact ⟨ks, g.keep _ _ h1 h, h2⟩
end
/-- notes in the heap; their places are below n -/
structure NtAt (c : CA) (H : Hp) (no ka wa ta : Addr) (n : Nat) (t : Nt) : Prop where
  ins : NotesAt c H no ka wa ta
  kin : KinAt H ka t.gk
  way : WayAt H wa t.gw
  top : TopAt H ta t.tops
  lk : DLt H ka n
  lw : DLt H wa n
  lt : DLt H ta n
  ne1 : ka ≠ wa
  ne2 : ka ≠ ta
  ne3 : wa ≠ ta
theorem NtAt.keep {c : CA} {H H' : Hp} {no ka wa ta : Addr} {n : Nat} {t : Nt} {S : List Addr} (h : NtAt c H no ka wa ta n t) (f : Fr S H H') (d : Disj [no, ka, wa, ta] S) : NtAt c H' no ka wa ta n t := by
  obtain ⟨⟨dn, h1⟩, h2, h3, h4, h5, h6, h7, n1, n2, n3⟩ := h
  exact ⟨⟨dn, f.keep _ _ h1 (d _ (by simp))⟩, h2.keep f (d _ (by simp)), h3.keep f (d _ (by simp)), h4.keep f (d _ (by simp)), h5.keep f (d _ (by simp)), h6.keep f (d _ (by simp)), h7.keep f (d _ (by simp)), n1, n2, n3⟩
theorem NtAt.there {c : CA} {H : Hp} {no ka wa ta : Addr} {n : Nat} {t : Nt} (h : NtAt c H no ka wa ta n t) : ∀ x ∈ [no, ka, wa, ta], H x ≠ none := by
  obtain ⟨⟨dn, h1⟩, h2, h3, h4, ⟨k1, h5, _⟩, ⟨k2, h6, _⟩, ⟨k3, h7, _⟩, _⟩ := h
  intro x hx
  simp only [List.mem_cons, List.not_mem_nil, or_false] at hx
  rcases hx with rfl | rfl | rfl | rfl
  · rw [h1]; simp
  · rw [h5]; simp
  · rw [h6]; simp
  · rw [h7]; simp
section
variable {ka wa ta : Addr}
theorem nt_kinds : (ntF ka wa ta).lookup ("kinds" : Str) = some (.ref ka) := rfl
theorem nt_ways : (ntF ka wa ta).lookup ("ways" : Str) = some (.ref wa) := rfl
theorem nt_tops : (ntF ka wa ta).lookup ("tops" : Str) = some (.ref ta) := rfl
theorem nt_see : (ntF ka wa ta).lookup ("see" : Str) = none := rfl
theorem nt_forget : (ntF ka wa ta).lookup ("forget" : Str) = none := rfl
theorem nt_count : (ntF ka wa ta).lookup ("count" : Str) = none := rfl
end
def sp_Notes_see (c : CA) : Sp := fun vs H Q _ => ∃ (no ka wa ta : Addr) (vc : V) (code : List Rw) (o na sk sd : Addr) (s : MS) (t : Nt), vs = [.ref no, vc, .ref o] ∧ Tp H (rowsD code) vc ∧ code.length ≤ 1000000 ∧ StAt c H o na sk sd s ∧ Fit code s ∧ NtAt c H no ka wa ta code.length t ∧
  ∀ H', NtAt c H' no ka wa ta code.length (t.see code s) → Fr [ka, wa, ta] H H' → Q .non H'
theorem len_Notes_see {c : CA} (vs : List V) (H : Hp) (Q : VK) (E : XK) (h : sp_Notes_see c vs H Q E) : vs.length = 3 := by
  obtain ⟨_, _, _, _, _, _, _, _, _, _, _, _, rfl, _⟩ := h
  rfl
def sp_Notes_forget (c : CA) : Sp := fun vs H Q _ => ∃ (no ka wa ta : Addr) (n p : Nat) (t : Nt), vs = [.ref no, .int (p : Nat)] ∧ NtAt c H no ka wa ta n t ∧ p < n ∧ n ≤ 1000000 ∧ ∀ H', NtAt c H' no ka wa ta n (t.forget p) → Fr [ta] H H' → Q .non H'
theorem len_Notes_forget {c : CA} (vs : List V) (H : Hp) (Q : VK) (E : XK) (h : sp_Notes_forget c vs H Q E) : vs.length = 2 := by
  obtain ⟨_, _, _, _, _, _, _, rfl, _⟩ := h
  rfl
def sp_Notes_count (c : CA) : Sp := fun vs H Q _ => ∃ (no ka wa ta : Addr) (n p : Nat) (t : Nt), vs = [.ref no, .int (p : Nat)] ∧ NtAt c H no ka wa ta n t ∧ Q (.int (t.tops p : Nat)) H
theorem len_Notes_count {c : CA} (vs : List V) (H : Hp) (Q : VK) (E : XK) (h : sp_Notes_count c vs H Q E) : vs.length = 2 := by
  obtain ⟨_, _, _, _, _, _, _, rfl, _⟩ := h
  rfl
/-! ### the machine -/
structure MMA where
  me : Addr
  o : Addr
  na : Addr
  sk : Addr
  sd : Addr
  no : Addr
  ka : Addr
  wa : Addr
  ta : Addr
  ra : Addr
  fa : Addr
  vc : V
def MMA.st (A : MMA) : List Addr := [A.o, A.na, A.sk, A.sd]
def MMA.nt (A : MMA) : List Addr := [A.no, A.ka, A.wa, A.ta]
def MMA.fp (A : MMA) : List Addr := [A.me, A.o, A.na, A.sk, A.sd, A.no, A.ka, A.wa, A.ta, A.ra, A.fa]
def mmF (A : MMA) (L : Lim) (made falls : Nat) : List (Str × V) := [("code", A.vc), ("state", .ref A.o), ("hot", .int (L.hot : Nat)), ("patience", .int (L.pat : Nat)), ("room", .int (L.room : Nat)), ("notes", .ref A.no), ("ready", .ref A.ra), ("fell", .ref A.fa), ("makings", .int (made : Nat)), ("falls", .int (falls : Nat))]
section
variable {A : MMA} {L : Lim} {m f : Nat} {no' ka' wa' ta' : Addr}
theorem mm_code : (mmF A L m f).lookup ("code" : Str) = some A.vc := rfl
theorem mm_state : (mmF A L m f).lookup ("state" : Str) = some (.ref A.o) := rfl
theorem mm_hot : (mmF A L m f).lookup ("hot" : Str) = some (.int (L.hot : Nat)) := rfl
theorem mm_pat : (mmF A L m f).lookup ("patience" : Str) = some (.int (L.pat : Nat)) := rfl
theorem mm_room : (mmF A L m f).lookup ("room" : Str) = some (.int (L.room : Nat)) := rfl
theorem mm_notes : (mmF A L m f).lookup ("notes" : Str) = some (.ref A.no) := rfl
theorem mm_ready : (mmF A L m f).lookup ("ready" : Str) = some (.ref A.ra) := rfl
theorem mm_fell : (mmF A L m f).lookup ("fell" : Str) = some (.ref A.fa) := rfl
theorem mm_makings : (mmF A L m f).lookup ("makings" : Str) = some (.int (m : Nat)) := rfl
theorem mm_falls : (mmF A L m f).lookup ("falls" : Str) = some (.int (f : Nat)) := rfl
theorem mm_hint : (mmF A L m f).lookup ("hint" : Str) = none := rfl
theorem mm_finish : (mmF A L m f).lookup ("finish" : Str) = none := rfl
theorem mm_plain : (mmF A L m f).lookup ("plain" : Str) = none := rfl
theorem mm_quick : (mmF A L m f).lookup ("quick" : Str) = none := rfl
theorem mm_told : (mmF A L m f).lookup ("told" : Str) = none := rfl
theorem mm_names_now : (mmF A L m f).lookup ("names_now" : Str) = none := rfl
theorem mm_counts : (mmF A L m f).lookup ("counts" : Str) = none := rfl
theorem mp_makings : putF ("makings" : Str) (.int ((m : Nat) + 1)) (mmF A L m f) = mmF A L (m + 1) f := rfl
theorem mp_falls : putF ("falls" : Str) (.int ((f : Nat) + 1)) (mmF A L m f) = mmF A L m (f + 1) := rfl
theorem mp_notes : putF ("notes" : Str) (.ref no') (mmF A L m f) = mmF { A with no := no', ka := ka', wa := wa', ta := ta' } L m f := rfl
theorem mm_len : (mmF A L m f).length < 1000 := by show 10 < 1000; decide
end
structure MmAt (c : CA) (H : Hp) (A : MMA) (n : Nat) (L : Lim) (m : MC) : Prop where
  ins : ∃ dx, H A.me = some (.ins c.machine dx (mmF A L m.made m.falls))
  st : StAt c H A.o A.na A.sk A.sd m.s
  nt : NtAt c H A.no A.ka A.wa A.ta n m.nt
  rdy : RdyAt H A.ra m.ready
  fel : FelAt H A.fa m.ready m.fell
  lr : DLt H A.ra n
  lf : DLt H A.fa n
  nd : [A.na, A.ka, A.wa, A.ta, A.ra, A.fa].Nodup
section
variable {c : CA} {H : Hp} {A : MMA} {n : Nat} {L : Lim} {m : MC}
theorem MmAt.there (h : MmAt c H A n L m) : ∀ x ∈ A.fp, H x ≠ none := by
  obtain ⟨dx, h1⟩ := h.ins
  have h2 := h.st.there
  have h3 := h.nt.there
  obtain ⟨k1, h4, _⟩ := h.lr
  obtain ⟨k2, h5, _⟩ := h.lf
  intro x hx
  simp only [MMA.fp, List.mem_cons, List.not_mem_nil, or_false] at hx
  rcases hx with rfl | rfl | rfl | rfl | rfl | rfl | rfl | rfl | rfl | rfl | rfl
  · rw [h1]; simp
  · exact h2 _ (by simp)
  · exact h2 _ (by simp)
  · exact h2 _ (by simp)
  · exact h2 _ (by simp)
  · exact h3 _ (by simp)
  · exact h3 _ (by simp)
  · exact h3 _ (by simp)
  · exact h3 _ (by simp)
  · rw [h4]; simp
  · rw [h5]; simp
/-- the state's part stands apart -/
theorem MmAt.dj (h : MmAt c H A n L m) : Disj A.st [A.me, A.no, A.ka, A.wa, A.ta, A.ra, A.fa] := by
  obtain ⟨dx, h1⟩ := h.ins
  obtain ⟨dx2, la, ho, _⟩ := h.st.ins
  have hna := h.st.nm
  have hsk := h.st.st
  have hsd := h.st.said
  obtain ⟨dn, hno⟩ := h.nt.ins
  obtain ⟨k3, h6, _⟩ := h.nt.lk
  obtain ⟨k4, h7, _⟩ := h.nt.lw
  obtain ⟨k5, h8, _⟩ := h.nt.lt
  obtain ⟨k1, h4, _⟩ := h.lr
  obtain ⟨k2, h5, _⟩ := h.lf
  have nd := h.nd
  simp only [List.nodup_cons, List.mem_cons, List.not_mem_nil, or_false, not_or] at nd
  obtain ⟨⟨n1, n2, n3, n4, n5⟩, _⟩ := nd
  intro x hx hz
  simp only [MMA.st, List.mem_cons, List.not_mem_nil, or_false] at hx hz
  have ne : ∀ {a b : Addr} {u v : HO}, H a = some u → H b = some v → u ≠ v → a ≠ b := fun h1 h2 h3 e => h3 (by rw [e, h2] at h1; exact (Option.some.inj h1).symm)
  rcases hx with rfl | rfl | rfl | rfl
  · rcases hz with e | e | e | e | e | e | e
    · exact ne ho h1 (by simp [stF, mmF]) e
    · exact ne ho hno (by simp [stF, ntF]) e
    · exact ne ho h6 (by simp) e
    · exact ne ho h7 (by simp) e
    · exact ne ho h8 (by simp) e
    · exact ne ho h4 (by simp) e
    · exact ne ho h5 (by simp) e
  · rcases hz with e | e | e | e | e | e | e
    · exact ne hna h1 (by simp) e
    · exact ne hna hno (by simp) e
    · exact n1 e
    · exact n2 e
    · exact n3 e
    · exact n4 e
    · exact n5 e
  · rcases hz with e | e | e | e | e | e | e
    · exact ne hsk h1 (by simp) e
    · exact ne hsk hno (by simp) e
    · exact ne hsk h6 (by simp) e
    · exact ne hsk h7 (by simp) e
    · exact ne hsk h8 (by simp) e
    · exact ne hsk h4 (by simp) e
    · exact ne hsk h5 (by simp) e
  · rcases hz with e | e | e | e | e | e | e
    · exact ne hsd h1 (by simp) e
    · exact ne hsd hno (by simp) e
    · exact ne hsd h6 (by simp) e
    · exact ne hsd h7 (by simp) e
    · exact ne hsd h8 (by simp) e
    · exact ne hsd h4 (by simp) e
    · exact ne hsd h5 (by simp) e
/-- no instance is a dict -/
theorem MmAt.dm (h : MmAt c H A n L m) : Disj [A.me, A.no] [A.ka, A.wa, A.ta, A.ra, A.fa] ∧ A.me ≠ A.no := by
  obtain ⟨dx, h1⟩ := h.ins
  obtain ⟨dn, hno⟩ := h.nt.ins
  obtain ⟨k3, h6, _⟩ := h.nt.lk
  obtain ⟨k4, h7, _⟩ := h.nt.lw
  obtain ⟨k5, h8, _⟩ := h.nt.lt
  obtain ⟨k1, h4, _⟩ := h.lr
  obtain ⟨k2, h5, _⟩ := h.lf
  have ne : ∀ {a b : Addr} {u v : HO}, H a = some u → H b = some v → u ≠ v → a ≠ b := fun h1 h2 h3 e => h3 (by rw [e, h2] at h1; exact (Option.some.inj h1).symm)
  refine ⟨fun x hx hz => ?_, ne h1 hno (by simp [mmF, ntF])⟩
  simp only [List.mem_cons, List.not_mem_nil, or_false] at hx hz
  rcases hx with rfl | rfl
  · rcases hz with e | e | e | e | e
    · exact ne h1 h6 (by simp) e
    · exact ne h1 h7 (by simp) e
    · exact ne h1 h8 (by simp) e
    · exact ne h1 h4 (by simp) e
    · exact ne h1 h5 (by simp) e
  · rcases hz with e | e | e | e | e
    · exact ne hno h6 (by simp) e
    · exact ne hno h7 (by simp) e
    · exact ne hno h8 (by simp) e
    · exact ne hno h4 (by simp) e
    · exact ne hno h5 (by simp) e
theorem MmAt.keep {H' : Hp} {S : List Addr} (h : MmAt c H A n L m) (f : Fr S H H') (d : Disj A.fp S) : MmAt c H' A n L m := by
  obtain ⟨⟨dx, h1⟩, h2, h3, h4, h5, h6, h7, nd⟩ := h
  refine ⟨⟨dx, f.keep _ _ h1 (d _ (by simp [MMA.fp]))⟩, h2.keep f fun x hx => d x ?_, h3.keep f fun x hx => d x ?_, h4.keep f (d _ (by simp [MMA.fp])), h5.keep f (d _ (by simp [MMA.fp])), h6.keep f (d _ (by simp [MMA.fp])), h7.keep f (d _ (by simp [MMA.fp])), nd⟩
  · simp only [MMA.fp, List.mem_cons, List.not_mem_nil, or_false] at hx ⊢
    rcases hx with rfl | rfl | rfl | rfl <;> simp
  · simp only [MMA.fp, List.mem_cons, List.not_mem_nil, or_false] at hx ⊢
    rcases hx with rfl | rfl | rfl | rfl <;> simp
theorem MmAt.keep0 {H' : Hp} (h : MmAt c H A n L m) (f : Fr [] H H') : MmAt c H' A n L m := h.keep f fun _ _ z => by cases z
end
/-- moved on: perhaps another list for what is half reckoned -/
def MNx (H : Hp) (A A' : MMA) : Prop := ∃ sk', A' = { A with sk := sk' } ∧ (sk' = A.sk ∨ H sk' = none)
theorem MNx.refl (H : Hp) (A : MMA) : MNx H A A := ⟨A.sk, rfl, .inl rfl⟩
theorem MNx.own {H : Hp} {A A' : MMA} (h : MNx H A A') : Own H A.fp A'.fp := by
  obtain ⟨sk', rfl, h⟩ := h
  intro x hx
  simp only [MMA.fp, List.mem_cons, List.not_mem_nil, or_false] at hx ⊢
  rcases hx with rfl | rfl | rfl | rfl | rfl | rfl | rfl | rfl | rfl | rfl | rfl
  all_goals first
    | (simp; done)
    | (rcases h with h | h
       · simp [h]
       · simp [h])
theorem MNx.trans {H H1 : Hp} {A A1 A2 : MMA} (a : MNx H A A1) (f : Fr A.fp H H1) (th : ∀ x ∈ A1.fp, H1 x ≠ none) (b : MNx H1 A1 A2) : MNx H A A2 := by
  obtain ⟨h1, rfl, e1⟩ := a
  obtain ⟨h2, rfl, e2⟩ := b
  refine ⟨h2, rfl, ?_⟩
  rcases e2 with e2 | e2
  · rw [e2]; exact e1
  · by_cases hz : h2 ∈ A.fp
    · by_cases hs : h2 = A.sk
      · exact .inl hs
      · refine absurd e2 (th h2 ?_)
        simp only [MMA.fp, List.mem_cons, List.not_mem_nil, or_false] at hz ⊢
        rcases hz with h | h | h | h | h | h | h | h | h | h | h
        all_goals first
          | (exact absurd h hs)
          | (simp [h]; done)
    · exact .inr (f.free e2 hz)
def sp_Machine___init__ (c : CA) : Sp := fun vs H Q _ => ∃ (me dx a la : Addr) (vc : V) (m : Nms) (most : Int) (n : Nat) (L : Lim), vs = [.ref me, vc, .ref a, .int most, .ref la] ∧ H me = some (.ins c.machine dx []) ∧ H a = some (.dK (kvs m)) ∧ H la = some (.tup [.int (L.hot : Nat), .int (L.pat : Nat), .int (L.room : Nat)]) ∧
  ∀ A H', A.me = me → A.vc = vc → (∀ x ∈ A.fp, x = me ∨ H x = none) → MmAt c H' A n L (MC0 (begS m most) Nt0) → Fr [me] H H' → Q .non H'
theorem len_Machine___init__ {c : CA} (vs : List V) (H : Hp) (Q : VK) (E : XK) (h : sp_Machine___init__ c vs H Q E) : vs.length = 5 := by
  obtain ⟨_, _, _, _, _, _, _, _, _, rfl, _⟩ := h
  rfl
def sp_Machine_hint (c : CA) : Sp := fun vs H Q _ => ∃ (A : MMA) (n : Nat) (L : Lim) (m : MC) (ka wa : Addr) (gk : Nat → Option (Kd × Kd)) (gw : Nat → Option Bool), vs = [.ref A.me, .ref ka, .ref wa] ∧ MmAt c H A n L m ∧ KinAt H ka gk ∧ WayAt H wa gw ∧ DLt H ka n ∧ DLt H wa n ∧
  ∀ A' H', A'.me = A.me → A'.vc = A.vc → (∀ x ∈ A'.fp, x ∈ A.fp ∨ H x = none) → MmAt c H' A' n L { m with nt := ⟨gk, gw, fun _ => 0⟩ } → Fr [A.me] H H' → Q .non H'
theorem len_Machine_hint {c : CA} (vs : List V) (H : Hp) (Q : VK) (E : XK) (h : sp_Machine_hint c vs H Q E) : vs.length = 3 := by
  obtain ⟨_, _, _, _, _, _, _, _, rfl, _⟩ := h
  rfl
/-- a machine that stands on its code -/
structure MOn (c : CA) (H : Hp) (A : MMA) (code : List Rw) (hts : List Nat) (s0 : MS) (L : Lim) (m : MC) : Prop where
  at_ : MmAt c H A code.length L m
  tc : Tp H (rowsD code) A.vc
  ty : Ty code hts
  cl : code.length ≤ 1000000
  rm : L.room ≤ 40000
  good : MGood code hts s0 L m
def spOn (c : CA) (H : Hp) (Q : VK) (A : MMA) (code : List Rw) (hts : List Nat) (s0 : MS) (L : Lim) (m : MC) : Prop := MOn c H A code hts s0 L m ∧ m.s.last = none ∧ ∀ H' A' m', MStep code L m m' → MmAt c H' A' code.length L m' → MNx H A A' → Fr A.fp H H' → Q .non H'
def sp_Machine_plain (c : CA) : Sp := fun vs H Q _ => ∃ (A : MMA) (code : List Rw) (hts : List Nat) (s0 : MS) (L : Lim) (m : MC), vs = [.ref A.me] ∧ m.ready m.s.place = none ∧ spOn c H Q A code hts s0 L m
theorem len_Machine_plain {c : CA} (vs : List V) (H : Hp) (Q : VK) (E : XK) (h : sp_Machine_plain c vs H Q E) : vs.length = 1 := by
  obtain ⟨_, _, _, _, _, _, rfl, _⟩ := h
  rfl
def sp_Machine_quick (c : CA) : Sp := fun vs H Q _ => ∃ (A : MMA) (code : List Rw) (hts : List Nat) (s0 : MS) (L : Lim) (m : MC) (rows : List Qr), vs = [.ref A.me, .int (m.s.place : Nat)] ∧ m.ready m.s.place = some rows ∧ spOn c H Q A code hts s0 L m
theorem len_Machine_quick {c : CA} (vs : List V) (H : Hp) (Q : VK) (E : XK) (h : sp_Machine_quick c vs H Q E) : vs.length = 2 := by
  obtain ⟨_, _, _, _, _, _, _, rfl, _⟩ := h
  rfl
def sp_Machine_finish (c : CA) : Sp := fun vs H Q _ => ∃ (A : MMA) (code : List Rw) (hts : List Nat) (s0 : MS) (L : Lim) (m : MC), vs = [.ref A.me] ∧ MOn c H A code hts s0 L m ∧
  ∀ v H' A' m', MReach code L m m' → m'.s.last ≠ none → MOn c H' A' code hts s0 L m' → Tp H' (lastD m'.s.last) v → MNx H A A' → Fr A.fp H H' → Q v H'
theorem len_Machine_finish {c : CA} (vs : List V) (H : Hp) (Q : VK) (E : XK) (h : sp_Machine_finish c vs H Q E) : vs.length = 1 := by
  obtain ⟨_, _, _, _, _, _, rfl, _⟩ := h
  rfl
def sp_Machine_told (c : CA) : Sp := fun vs H Q _ => ∃ (A : MMA) (n : Nat) (L : Lim) (m : MC), vs = [.ref A.me] ∧ MmAt c H A n L m ∧ ∀ p H', Al H p (.lst (vls m.s.said)) H' → Q (.ref p) H'
theorem len_Machine_told {c : CA} (vs : List V) (H : Hp) (Q : VK) (E : XK) (h : sp_Machine_told c vs H Q E) : vs.length = 1 := by
  obtain ⟨_, _, _, _, rfl, _⟩ := h
  rfl
def sp_Machine_names_now (c : CA) : Sp := fun vs H Q _ => ∃ (A : MMA) (n : Nat) (L : Lim) (m : MC), vs = [.ref A.me] ∧ MmAt c H A n L m ∧ ∀ p H', Al H p (.dK (kvs m.s.names)) H' → Q (.ref p) H'
theorem len_Machine_names_now {c : CA} (vs : List V) (H : Hp) (Q : VK) (E : XK) (h : sp_Machine_names_now c vs H Q E) : vs.length = 1 := by
  obtain ⟨_, _, _, _, rfl, _⟩ := h
  rfl
def sp_Machine_counts (c : CA) : Sp := fun vs H Q _ => ∃ (A : MMA) (n : Nat) (L : Lim) (m : MC), vs = [.ref A.me] ∧ MmAt c H A n L m ∧ ∀ p H', Al H p (.tup [.int (m.made : Nat), .int (m.falls : Nat)]) H' → Q (.ref p) H'
theorem len_Machine_counts {c : CA} (vs : List V) (H : Hp) (Q : VK) (E : XK) (h : sp_Machine_counts c vs H Q E) : vs.length = 1 := by
  obtain ⟨_, _, _, _, rfl, _⟩ := h
  rfl

/-- Notes.see from 3 -/
def t_Notes_see_3 (K : PySem.W.Frag) (c : CA) : TS :=
  (tSeq (tIfS (tTest (tOp rEq (tVar 4) (tC (.str (wd 9))))) (xPutI (xFld c.notes (tVar 0) ("ways" : Str)) (tVar 3) (tCall sp_is_so [] E0 (tCons (tOp rXL (xFld c.state (tVar 2) ("stack" : Str)) (tUn (rU fun i => .int (-i)) (tC (.int 1)))) tNil))) tNext)
    (tIfS (tTest (tOp rEq (tVar 4) (tC (.str (wd 11))))) (xPutI (xFld c.notes (tVar 0) ("tops" : Str)) (tVar 3) (tOp (rI0 fun i j => .int (i + j)) (xGet2I (xFld c.notes (tVar 0) ("tops" : Str)) (tVar 3) (tC (.int 0))) (tC (.int 1)))) tNext))

/-- Notes.see from 2 -/
def t_Notes_see_2 (K : PySem.W.Frag) (c : CA) : TS :=
  tSeq (tIfS (tTest (tOp (rInT false) (tVar 4) (xTup (tCons (tC (.str (wd 3))) (tCons (tC (.str (wd 4))) (tCons (tC (.str (wd 5))) tNil)))))) (xPutI (xFld c.notes (tVar 0) ("kinds" : Str)) (tVar 3) (xTup (tCons (tCall sp_kind_of [] E0 (tCons (tOp rXL (xFld c.state (tVar 2) ("stack" : Str)) (tUn (rU fun i => .int (-i)) (tC (.int 2)))) tNil)) (tCons (tCall sp_kind_of [] E0 (tCons (tOp rXL (xFld c.state (tVar 2) ("stack" : Str)) (tUn (rU fun i => .int (-i)) (tC (.int 1)))) tNil)) tNil)))) tNext) (t_Notes_see_3 K c)

/-- Notes.see from 1 -/
def t_Notes_see_1 (K : PySem.W.Frag) (c : CA) : TS :=
  tSeq (tAsg (tOp rXT (tOp rXT (tVar 1) (tVar 3)) (tC (.int 0))) (gName 4)) (t_Notes_see_2 K c)

/-- Notes.see -/
def t_Notes_see (K : PySem.W.Frag) (c : CA) : TS :=
  tSeq (tAsg (xFld c.state (tVar 2) ("place" : Str)) (gName 3)) (t_Notes_see_1 K c)

/-- Notes.forget -/
def t_Notes_forget (K : PySem.W.Frag) (c : CA) : TS :=
  (xPutI (xFld c.notes (tVar 0) ("tops" : Str)) (tVar 1) (tC (.int 0)))

/-- Notes.count -/
def t_Notes_count (K : PySem.W.Frag) (c : CA) : TS :=
  (tRet (xGet2I (xFld c.notes (tVar 0) ("tops" : Str)) (tVar 1) (tC (.int 0))))

theorem ta_put {H H' : Hp} {a : Addr} {f : Nat → Nat} {i j : Nat} {ks : List (Key × V)} (h : TopAt H a f) (ha : H a = some (.dK ks)) (M : Mu H a (.dK (putK ks (Sum.inl ((i : Nat) : Int)) (.int (j : Nat)))) H') : TopAt H' a fun p => if p = i then j else f p := by
  obtain ⟨ks', h1, h2⟩ := h.dic
  rw [ha] at h1
  cases h1
  refine ⟨_, M.at_, fun p => ?_⟩
  rw [valV_nK]
  by_cases h : p = i
  · rw [if_pos h, if_pos h]; rfl
  · rw [if_neg h, if_neg h]; exact h2 p
theorem DLt.put {H H' : Hp} {a : Addr} {n i : Nat} {v : V} {ks : List (Key × V)} (h : DLt H a n) (ha : H a = some (.dK ks)) (hi : i < n) (M : Mu H a (.dK (putK ks (Sum.inl ((i : Nat) : Int)) v)) H') : DLt H' a n := by
  obtain ⟨ks', h1, h2⟩ := h
  rw [ha] at h1
  cases h1
  exact ⟨_, M.at_, h2.put hi⟩
theorem DLt.len {H : Hp} {a : Addr} {n : Nat} {ks : List (Key × V)} (h : DLt H a n) (ha : H a = some (.dK ks)) : ks.length ≤ n := by
  obtain ⟨ks', h1, h2⟩ := h
  rw [ha] at h1
  cases h1
  exact h2.len
theorem vtop {H : Hp} {a : Addr} {f : Nat → Nat} (h : TopAt H a f) : ∃ ks, H a = some (.dK ks) ∧ ∀ p : Nat, (valV ks (Sum.inl ((p : Nat) : Int))).getD (.int 0) = .int (f p : Nat) := h.dic
theorem rd_Notes_forget {K : PySem.W.Frag} {c : CA} {vs : List V} {H : Hp} {Q : VK} {E : XK} (h : sp_Notes_forget c vs H Q E) : t_Notes_forget K c { nx := fun _ H' => Q .non H', rt := Q } (start ["_", "_"] vs) H := by
  obtain ⟨no, ka, wa, ta, n, p, t, rfl, N, hp, hn, k⟩ := h
  show t_Notes_forget K c _ [some (.ref no), some (.int (p : Nat))] H
  obtain ⟨⟨dn, hno⟩, G, W, P, lk, lw, lt, n1, n2, n3⟩ := N
  obtain ⟨tt, hta, hv⟩ := vtop P
  have tl := lt.len hta
  unfold t_Notes_forget
  push_cast [hno, nt_tops, hta]
  refine ⟨bigL (by omega), fun H1 M1 => ?_⟩
  have f1 : Fr [ta] H H1 := M1.fr (by simp)
  refine k H1 ⟨⟨dn, M1.k hno (ne_of hno hta (by simp))⟩, G.keep f1 (by simp [n2]), W.keep f1 (by simp [n3]), ta_put (j := 0) P hta M1, lk.keep f1 (by simp [n2]), lw.keep f1 (by simp [n3]), lt.put hta hp M1, n1, n2, n3⟩ f1
theorem rd_Notes_count {K : PySem.W.Frag} {c : CA} {vs : List V} {H : Hp} {Q : VK} {E : XK} (h : sp_Notes_count c vs H Q E) : t_Notes_count K c { nx := fun _ H' => Q .non H', rt := Q } (start ["_", "_"] vs) H := by
  obtain ⟨no, ka, wa, ta, n, p, t, rfl, N, k⟩ := h
  show t_Notes_count K c _ [some (.ref no), some (.int (p : Nat))] H
  obtain ⟨⟨dn, hno⟩, G, W, P, lk, lw, lt, n1, n2, n3⟩ := N
  obtain ⟨tt, hta, hv⟩ := vtop P
  unfold t_Notes_count
  push_cast [hno, nt_tops, hta, hv]
  exact k
theorem nops (r : Rw) (h : ∀ g, r = .op g → g = .same) : inV (V.str r.wx) [V.str (wd 3), V.str (wd 4), V.str (wd 5)] = false := by
  cases r with
  | op g =>
    have := h g rfl
    subst this
    simp [inV_cons, inV_nil, eqV_str, Rw.wx, Sg.s, Sg.ix, wd_eq]
  | _ => simp [inV_cons, inV_nil, eqV_str, Rw.wx, wd_eq]
theorem nunl (r : Rw) (h : ∀ q, r ≠ .unless q) : (r.wx = wd 9) = False := by
  cases r with
  | op g => cases g <;> simp [Rw.wx, Sg.s, Sg.ix, wd_eq]
  | «unless» q => exact absurd rfl (h q)
  | _ => simp [Rw.wx, wd_eq]
theorem ntop (r : Rw) (h : r ≠ .top) : (r.wx = wd 11) = False := by
  cases r with
  | op g => cases g <;> simp [Rw.wx, Sg.s, Sg.ix, wd_eq]
  | top => exact absurd rfl h
  | _ => simp [Rw.wx, wd_eq]
theorem rd_Notes_see {K : PySem.W.Frag} {c : CA} {vs : List V} {H : Hp} {Q : VK} {E : XK} (h : sp_Notes_see c vs H Q E) : t_Notes_see K c { nx := fun _ H' => Q .non H', rt := Q } (start ["_", "_", "_", "_", "_"] vs) H := by
  obtain ⟨no, ka, wa, ta, vc, code, o, na, sk, sd, s, t, rfl, tc, cl, S, F, N, k⟩ := h
  show t_Notes_see K c _ [some (.ref no), some vc, some (.ref o), none, none] H
  obtain ⟨r, hr, hn, hv⟩ := F.row
  have pl : s.place < code.length := (List.getElem?_eq_some_iff.mp hr).1
  obtain ⟨⟨dx, la, ho, hla⟩, hna, hsk, hsd, ne⟩ := S
  obtain ⟨⟨dn, hno⟩, G, W, P, lk, lw, lt, n1, n2, n3⟩ := N
  obtain ⟨kk, hka, vka⟩ := G.dic
  obtain ⟨ww, hwa, vwa⟩ := W.dic
  obtain ⟨tt, hta, vta⟩ := vtop P
  have kl := lk.len hka
  have wl := lw.len hwa
  have tl := lt.len hta
  obtain ⟨ca, rows, y, rfl, hca, hlen, hix, ty⟩ := code_at tc hr
  obtain ⟨ra, ys, rfl, hra⟩ := tp_rw ty
  rw [see_at hr] at k
  unfold t_Notes_see; refine st_seq ?_
  push_cast [ho, st_place]
  unfold t_Notes_see_1; refine st_seq ?_
  push_cast [hca, hix, hra]
  unfold t_Notes_see_2; refine st_seq ?_
  push_cast
  refine ⟨(by simp only [List.length_cons, List.length_nil]; decide), fun q H1 A1 => ⟨_, A1.at_, rfl, ?_⟩⟩
  replace hno := A1.k hno
  replace ho := A1.k ho
  replace hsk := A1.k hsk
  replace hka := A1.k hka
  replace hwa := A1.k hwa
  replace hta := A1.k hta
  have f1 : Fr [] H H1 := A1.fr
  replace G := G.keep f1 (by simp)
  replace W := W.keep f1 (by simp)
  replace P := P.keep f1 (by simp)
  replace lk := lk.keep f1 (by simp)
  replace lw := lw.keep f1 (by simp)
  replace lt := lt.keep f1 (by simp)
  by_cases hop : ∃ g, r = .op g ∧ g ≠ .same
  · obtain ⟨g, rfl, hg⟩ := hop
    have hin : inV (V.str (Rw.op g).wx) [V.str (wd 3), V.str (wd 4), V.str (wd 5)] = true := by
      cases g <;> first | exact absurd rfl hg | simp [inV_cons, inV_nil, eqV_str, Rw.wx, Sg.s, Sg.ix, wd_eq]
    have e9 := nunl (.op g) (by intro q z; cases z)
    have e11 := ntop (.op g) (by intro z; cases z)
    rw [if_pos hin]
    match hs : s.st, hn with
    | y :: x :: rr, _ =>
      rw [hs] at hsk
      unfold vls at hsk
      simp only [Nt.seeR, hs, if_neg hg] at k
      push_cast [ho, st_stack, hsk, Int.reduceNeg, atI_last1, atI_last2]
      refine ⟨x, rfl, ?_⟩
      push_cast [ho, st_stack, hsk, Int.reduceNeg, atI_last1, atI_last2]
      refine ⟨y, rfl, (by simp only [List.length_cons, List.length_nil]; decide), fun p H2 A2 => ?_⟩
      have f2 : Fr [] H1 H2 := A2.fr
      replace G := G.keep f2 (by simp)
      replace W := W.keep f2 (by simp)
      replace P := P.keep f2 (by simp)
      replace lk := lk.keep f2 (by simp)
      replace lw := lw.keep f2 (by simp)
      replace lt := lt.keep f2 (by simp)
      replace hno := A2.k hno
      replace hka := A2.k hka
      have hp2 : H2 p = some (.tup [.str x.kind.s, .str y.kind.s]) := by rw [← x.kd_kind, ← y.kd_kind]; exact A2.at_
      push_cast [hno, nt_kinds, hka]
      refine ⟨bigL (by omega), fun H3 M3 => ?_⟩
      have f3 : Fr [ka] H2 H3 := M3.fr (by simp)
      unfold t_Notes_see_3; refine st_seq ?_
      push_cast [e9, e11]
      refine k H3 ⟨⟨dn, M3.k hno (ne_of hno hka (by simp))⟩, ka_put G hka hp2 M3, W.keep f3 (by simp [n1.symm]), P.keep f3 (by simp [n2.symm]), lk.put hka pl M3, lw.keep f3 (by simp [n1.symm]), lt.keep f3 (by simp [n2.symm]), n1, n2, n3⟩ ?_
      exact ((f1.trans f2).sub0 (S := [ka, wa, ta])).trans (f3.mono (by simp))
  have hin := nops r (fun g e => by
    refine Classical.byContradiction fun z => hop ⟨g, e, z⟩)
  rw [if_neg (by rw [hin]; decide)]
  push_cast
  by_cases hun : ∃ q, r = .unless q
  · obtain ⟨z, rfl⟩ := hun
    match hs : s.st, hn with
    | y :: rr, _ =>
      rw [hs] at hsk
      unfold vls at hsk
      simp only [Nt.seeR, hs] at k
      unfold t_Notes_see_3; refine st_seq ?_
      push_cast [Rw.wx, ho, st_stack, hsk, Int.reduceNeg, atI_last1]
      refine ⟨y, rfl, fun H2 f2 => ?_⟩
      replace G := G.keep f2 (by simp)
      replace W := W.keep f2 (by simp)
      replace P := P.keep f2 (by simp)
      replace lk := lk.keep f2 (by simp)
      replace lw := lw.keep f2 (by simp)
      replace lt := lt.keep f2 (by simp)
      replace hno := f2.keep _ _ hno (by simp)
      replace hwa := f2.keep _ _ hwa (by simp)
      push_cast [hno, nt_ways, hwa]
      refine ⟨bigL (by omega), fun H3 M3 => ?_⟩
      have f3 : Fr [wa] H2 H3 := M3.fr (by simp)
      push_cast
      refine k H3 ⟨⟨dn, M3.k hno (ne_of hno hwa (by simp))⟩, G.keep f3 (by simp [n1]), wa_put W hwa M3, P.keep f3 (by simp [n3.symm]), lk.keep f3 (by simp [n1]), lw.put hwa pl M3, lt.keep f3 (by simp [n3.symm]), n1, n2, n3⟩ ?_
      exact ((f1.trans f2).sub0 (S := [ka, wa, ta])).trans (f3.mono (by simp))
  have e9 := nunl r (fun q e => hun ⟨q, e⟩)
  unfold t_Notes_see_3; refine st_seq ?_
  push_cast [e9]
  by_cases ht : r = .top
  · subst ht
    push_cast [Rw.wx, hno, nt_tops, hta, vta]
    refine ⟨bigL (by omega), fun H3 M3 => ?_⟩
    have f3 : Fr [ta] H1 H3 := M3.fr (by simp)
    have M3' : Mu H1 ta (.dK (putK tt (Sum.inl ((s.place : Nat) : Int)) (.int ((t.tops s.place + 1 : Nat) : Int)))) H3 := M3
    have P3 := ta_put P hta M3'
    refine k H3 ⟨⟨dn, M3.k hno (ne_of hno hta (by simp))⟩, G.keep f3 (by simp [n2]), W.keep f3 (by simp [n3]), ?_, lk.keep f3 (by simp [n2]), lw.keep f3 (by simp [n3]), lt.put hta pl M3, n1, n2, n3⟩ ((f1.sub0 (S := [ka, wa, ta])).trans (f3.mono (by simp)))
    have e : (fun j => if j = s.place then t.tops j + 1 else t.tops j) = fun p => if p = s.place then t.tops s.place + 1 else t.tops p := by
      funext j
      by_cases h : j = s.place
      · subst h; simp
      · simp [h]
    simp only [Nt.seeR]
    rw [e]
    exact P3
  have e11 := ntop r ht
  push_cast [e11]
  have N1 : NtAt c H1 no ka wa ta code.length t := ⟨⟨dn, hno⟩, G, W, P, lk, lw, lt, n1, n2, n3⟩
  have fin : t.seeR r s = t := by
    unfold Nt.seeR
    cases r with
    | op g =>
      have : g = .same := Classical.byContradiction fun z => hop ⟨g, rfl, z⟩
      subst this
      simp only
      split
      · simp
      · rfl
    | «unless» q => exact absurd ⟨q, rfl⟩ hun
    | top => exact absurd rfl ht
    | _ => rfl
  rw [fin] at k
  exact k H1 N1 f1.sub0

/-- Machine.__init__ from 8 -/
def t_Machine___init___8 (K : PySem.W.Frag) (c : CA) : TS :=
  (tSeq (xSet c.machine (tVar 0) (tC (.int 0)) ("makings" : Str))
    (xSet c.machine (tVar 0) (tC (.int 0)) ("falls" : Str)))

/-- Machine.__init__ from 7 -/
def t_Machine___init___7 (K : PySem.W.Frag) (c : CA) : TS :=
  tSeq (xSet c.machine (tVar 0) xDic ("fell" : Str)) (t_Machine___init___8 K c)

/-- Machine.__init__ from 6 -/
def t_Machine___init___6 (K : PySem.W.Frag) (c : CA) : TS :=
  tSeq (xSet c.machine (tVar 0) xDic ("ready" : Str)) (t_Machine___init___7 K c)

/-- Machine.__init__ from 5 -/
def t_Machine___init___5 (K : PySem.W.Frag) (c : CA) : TS :=
  tSeq (xSet c.machine (tVar 0) (xMake c.notes (sp_Notes___init__ c) (tCons xDic (tCons xDic tNil))) ("notes" : Str)) (t_Machine___init___6 K c)

/-- Machine.__init__ from 4 -/
def t_Machine___init___4 (K : PySem.W.Frag) (c : CA) : TS :=
  tSeq (xSet c.machine (tVar 0) (tOp rXT (tVar 4) (tC (.int 2))) ("room" : Str)) (t_Machine___init___5 K c)

/-- Machine.__init__ from 3 -/
def t_Machine___init___3 (K : PySem.W.Frag) (c : CA) : TS :=
  tSeq (xSet c.machine (tVar 0) (tOp rXT (tVar 4) (tC (.int 1))) ("patience" : Str)) (t_Machine___init___4 K c)

/-- Machine.__init__ from 2 -/
def t_Machine___init___2 (K : PySem.W.Frag) (c : CA) : TS :=
  tSeq (xSet c.machine (tVar 0) (tOp rXT (tVar 4) (tC (.int 0))) ("hot" : Str)) (t_Machine___init___3 K c)

/-- Machine.__init__ from 1 -/
def t_Machine___init___1 (K : PySem.W.Frag) (c : CA) : TS :=
  tSeq (xSet c.machine (tVar 0) (xMake c.state (sp_State___init__ c) (tCons (tVar 2) (tCons (tVar 3) tNil))) ("state" : Str)) (t_Machine___init___2 K c)

/-- Machine.__init__ -/
def t_Machine___init__ (K : PySem.W.Frag) (c : CA) : TS :=
  tSeq (xSet c.machine (tVar 0) (tVar 1) ("code" : Str)) (t_Machine___init___1 K c)

/-- Machine.plain from 3 -/
def t_Machine_plain_3 (K : PySem.W.Frag) (c : CA) : TS :=
  (tSeq (tIfS (tAnd (tTest (tOp rEq (tOp rXT (tOp rXT (xFld c.machine (tVar 0) ("code" : Str)) (tVar 2)) (tC (.int 0))) (tC (.str (wd 11))))) (tTest (tOp (rI0 fun i j => .bl (decide (j ≤ i))) (xMeth c.notes ("count" : Str) (sp_Notes_count c) (xFld c.machine (tVar 0) ("notes" : Str)) (tCons (tVar 2) tNil)) (xFld c.machine (tVar 0) ("hot" : Str))))) (tSeq (xPutI (xFld c.machine (tVar 0) ("ready" : Str)) (tVar 2) (tCall (sp_quick_rows c) [] E0 (tCons (xFld c.machine (tVar 0) ("code" : Str)) (tCons (tVar 2) (tCons (xFld c.machine (tVar 0) ("notes" : Str)) (tCons (xFld c.machine (tVar 0) ("room" : Str)) tNil))))))
    (tSeq (xPutI (xFld c.machine (tVar 0) ("fell" : Str)) (tVar 2) (tC (.int 0)))
    (xSet c.machine (tVar 0) (tOp (rI0 fun i j => .int (i + j)) (xFld c.machine (tVar 0) ("makings" : Str)) (tC (.int 1))) ("makings" : Str)))) tNext)
    (tDrop (tCall (sp_do_row c) [] E0 (tCons (xFld c.machine (tVar 0) ("code" : Str)) (tCons (tVar 1) tNil)))))

/-- Machine.plain from 2 -/
def t_Machine_plain_2 (K : PySem.W.Frag) (c : CA) : TS :=
  tSeq (tDrop (xMeth c.notes ("see" : Str) (sp_Notes_see c) (xFld c.machine (tVar 0) ("notes" : Str)) (tCons (xFld c.machine (tVar 0) ("code" : Str)) (tCons (tVar 1) tNil)))) (t_Machine_plain_3 K c)

/-- Machine.plain from 1 -/
def t_Machine_plain_1 (K : PySem.W.Frag) (c : CA) : TS :=
  tSeq (tAsg (xFld c.state (tVar 1) ("place" : Str)) (gName 2)) (t_Machine_plain_2 K c)

/-- Machine.plain -/
def t_Machine_plain (K : PySem.W.Frag) (c : CA) : TS :=
  tSeq (tAsg (xFld c.machine (tVar 0) ("state" : Str)) (gName 1)) (t_Machine_plain_1 K c)

/-- Machine.quick from 1 -/
def t_Machine_quick_1 (K : PySem.W.Frag) (c : CA) : TS :=
  (tSeq (tAsg (tCall (sp_run_quick c) [] E0 (tCons (tVar 2) (tCons (xFld c.machine (tVar 0) ("state" : Str)) tNil))) (gName 3))
    (tIfS (tAnd (tTest (tOp (rI0 fun i j => .bl (decide (j ≤ i))) (tVar 3) (tC (.int 0)))) (tTest (tOp rNe (tOp rXT (tOp rXT (tVar 2) (tVar 3)) (tC (.int 0))) (tC (.str (wd 22)))))) (tSeq (xSet c.machine (tVar 0) (tOp (rI0 fun i j => .int (i + j)) (xFld c.machine (tVar 0) ("falls" : Str)) (tC (.int 1))) ("falls" : Str))
    (tSeq (xPutI (xFld c.machine (tVar 0) ("fell" : Str)) (tVar 1) (tOp (rI0 fun i j => .int (i + j)) (tOp rGetI (xFld c.machine (tVar 0) ("fell" : Str)) (tVar 1)) (tC (.int 1))))
    (tIfS (tTest (tOp (rI0 fun i j => .bl (decide (j < i))) (tOp rGetI (xFld c.machine (tVar 0) ("fell" : Str)) (tVar 1)) (xFld c.machine (tVar 0) ("patience" : Str)))) (tSeq (tDrop (xPopI (xFld c.machine (tVar 0) ("ready" : Str)) (tVar 1)))
    (tDrop (xMeth c.notes ("forget" : Str) (sp_Notes_forget c) (xFld c.machine (tVar 0) ("notes" : Str)) (tCons (tVar 1) tNil)))) tNext))) tNext))

/-- Machine.quick -/
def t_Machine_quick (K : PySem.W.Frag) (c : CA) : TS :=
  tSeq (tAsg (tOp rGetI (xFld c.machine (tVar 0) ("ready" : Str)) (tVar 1)) (gName 2)) (t_Machine_quick_1 K c)

/-- Machine.finish from 1 -/
def t_Machine_finish_1 (K : PySem.W.Frag) (c : CA) : TS :=
  (tSeq (tWhile (tTest (tOp rIsN (xFld c.state (tVar 1) ("last" : Str)) (tC .non)))
    (tIfS (tB (tOp (rInDI false) (xFld c.state (tVar 1) ("place" : Str)) (xFld c.machine (tVar 0) ("ready" : Str)))) (tDrop (xMeth c.machine ("quick" : Str) (sp_Machine_quick c) (tVar 0) (tCons (xFld c.state (tVar 1) ("place" : Str)) tNil))) (tDrop (xMeth c.machine ("plain" : Str) (sp_Machine_plain c) (tVar 0) tNil))))
    (tRet (xFld c.state (tVar 1) ("last" : Str))))

/-- Machine.finish -/
def t_Machine_finish (K : PySem.W.Frag) (c : CA) : TS :=
  tSeq (tAsg (xFld c.machine (tVar 0) ("state" : Str)) (gName 1)) (t_Machine_finish_1 K c)

/-- Machine.told -/
def t_Machine_told (K : PySem.W.Frag) (c : CA) : TS :=
  (tRet (tCB rLstL (tCons (xFld c.state (xFld c.machine (tVar 0) ("state" : Str)) ("said" : Str)) tNil)))

/-- Machine.names_now -/
def t_Machine_names_now (K : PySem.W.Frag) (c : CA) : TS :=
  (tRet (tCB rDctD (tCons (xFld c.state (xFld c.machine (tVar 0) ("state" : Str)) ("names" : Str)) tNil)))

/-- Machine.counts -/
def t_Machine_counts (K : PySem.W.Frag) (c : CA) : TS :=
  (tRet (xTup (tCons (xFld c.machine (tVar 0) ("makings" : Str)) (tCons (xFld c.machine (tVar 0) ("falls" : Str)) tNil))))

theorem rd_Machine_told {K : PySem.W.Frag} {c : CA} {vs : List V} {H : Hp} {Q : VK} {E : XK} (h : sp_Machine_told c vs H Q E) : t_Machine_told K c { nx := fun _ H' => Q .non H', rt := Q } (start ["_"] vs) H := by
  obtain ⟨A, n, L, m, rfl, M, k⟩ := h
  show t_Machine_told K c _ [some (.ref A.me)] H
  obtain ⟨dx, hme⟩ := M.ins
  obtain ⟨dx2, la, ho, _⟩ := M.st.ins
  have hsd := M.st.said
  unfold t_Machine_told
  push_cast [hme, mm_state, ho, st_said, hsd]
  exact k
theorem rd_Machine_names_now {K : PySem.W.Frag} {c : CA} {vs : List V} {H : Hp} {Q : VK} {E : XK} (h : sp_Machine_names_now c vs H Q E) : t_Machine_names_now K c { nx := fun _ H' => Q .non H', rt := Q } (start ["_"] vs) H := by
  obtain ⟨A, n, L, m, rfl, M, k⟩ := h
  show t_Machine_names_now K c _ [some (.ref A.me)] H
  obtain ⟨dx, hme⟩ := M.ins
  obtain ⟨dx2, la, ho, _⟩ := M.st.ins
  have hsd := M.st.nm
  unfold t_Machine_names_now
  push_cast [hme, mm_state, ho, st_names, hsd]
  exact k
theorem rd_Machine_counts {K : PySem.W.Frag} {c : CA} {vs : List V} {H : Hp} {Q : VK} {E : XK} (h : sp_Machine_counts c vs H Q E) : t_Machine_counts K c { nx := fun _ H' => Q .non H', rt := Q } (start ["_"] vs) H := by
  obtain ⟨A, n, L, m, rfl, M, k⟩ := h
  show t_Machine_counts K c _ [some (.ref A.me)] H
  obtain ⟨dx, hme⟩ := M.ins
  unfold t_Machine_counts
  push_cast [hme, mm_makings, mm_falls]
  exact ⟨(by simp only [List.length_cons, List.length_nil]; decide), k⟩
theorem rd_Machine___init__ {K : PySem.W.Frag} {c : CA} {vs : List V} {H : Hp} {Q : VK} {E : XK} (h : sp_Machine___init__ c vs H Q E) : t_Machine___init__ K c { nx := fun _ H' => Q .non H', rt := Q } (start ["_", "_", "_", "_", "_"] vs) H := by
  obtain ⟨me, dx, a, la, vc, m, most, n, L, rfl, ho, ha, hla, k⟩ := h
  show t_Machine___init__ K c _ [some (.ref me), some vc, some (.ref a), some (.int most), some (.ref la)] H
  have nam : a ≠ me := ne_of ha ho (by simp)
  have fresh : ∀ {G : Hp} {x : Addr}, Fr [me] H G → (∃ u, G me = some u) → G x = none → H x = none ∧ x ≠ me := fun {G x} f ⟨u, hu⟩ hx => by
    have ne : x ≠ me := fun z => by rw [z, hu] at hx; cases hx
    exact ⟨f.free hx (by simpa using ne), ne⟩
  unfold t_Machine___init__; refine st_seq ?_
  push_cast [ho]
  refine ⟨lt1000 rfl, fun H1 M1 => ?_⟩
  replace ha := M1.k ha nam
  replace hla := M1.tu _ _ hla
  replace ho := M1.at_
  have f1 : Fr [me] H H1 := M1.fr (by simp)
  unfold t_Machine___init___1; refine st_seq ?_
  push_cast
  intro o dx2 H2 A2
  have nao : a ≠ o := ne_of_none ha A2.new
  obtain ⟨fo, moo⟩ := fresh f1 ⟨_, ho⟩ A2.new
  replace ho := A2.k ho; replace ha := A2.k ha
  replace hla := A2.k hla
  have f2 : Fr [me] H H2 := f1.al A2
  refine ⟨o, dx2, a, m, most, rfl, A2.at_, ha, nao, fun na sk sd H3 n1 n2 n3 S3 f3 => ⟨rfl, ?_⟩⟩
  obtain ⟨fna, mna⟩ := fresh f2 ⟨_, ho⟩ n1
  obtain ⟨fsk, msk⟩ := fresh f2 ⟨_, ho⟩ n2
  obtain ⟨fsd, msd⟩ := fresh f2 ⟨_, ho⟩ n3
  replace ho := f3.keep _ _ ho (by simp [moo.symm])
  replace hla := f3.tu _ _ hla
  have F3 : Fr [me] H H3 := Fr.drop ((f2.mono (S' := o :: [me]) (by simp)).trans (f3.mono (by simp))) fo
  have djm : Disj [o, na, sk, sd] [me] := fun x hx hz => by
    rw [List.mem_singleton.mp hz] at hx
    simp only [List.mem_cons, List.not_mem_nil, or_false] at hx
    rcases hx with e | e | e | e
    · exact moo e.symm
    · exact mna e.symm
    · exact msk e.symm
    · exact msd e.symm
  push_cast [ho]
  refine ⟨lt1000 rfl, fun H4 M4 => ?_⟩
  replace ho := M4.at_
  replace hla := M4.tu _ _ hla
  replace S3 := S3.keep (M4.fr (S := [me]) (by simp)) djm
  replace F3 := F3.mu M4 (by simp)
  unfold t_Machine___init___2; refine st_seq ?_
  push_cast [hla, ho]
  refine ⟨lt1000 rfl, fun H5 M5 => ?_⟩
  replace ho := M5.at_
  replace hla := M5.tu _ _ hla
  replace S3 := S3.keep (M5.fr (S := [me]) (by simp)) djm
  replace F3 := F3.mu M5 (by simp)
  unfold t_Machine___init___3; refine st_seq ?_
  push_cast [hla, ho]
  refine ⟨lt1000 rfl, fun H6 M6 => ?_⟩
  replace ho := M6.at_
  replace hla := M6.tu _ _ hla
  replace S3 := S3.keep (M6.fr (S := [me]) (by simp)) djm
  replace F3 := F3.mu M6 (by simp)
  unfold t_Machine___init___4; refine st_seq ?_
  push_cast [hla, ho]
  refine ⟨lt1000 rfl, fun H7 M7 => ?_⟩
  replace ho := M7.at_
  replace S3 := S3.keep (M7.fr (S := [me]) (by simp)) djm
  replace F3 := F3.mu M7 (by simp)
  unfold t_Machine___init___5; refine st_seq ?_
  push_cast
  intro d1 H8 A8 d2 H9 A9 no dxn H10 A10
  replace ho := A10.k (A9.k (A8.k ho))
  have g0 : Fr [] H7 H10 := (A8.fr.al A9).al A10
  obtain ⟨fno, mno⟩ := fresh (F3.trans ((A8.fr (S := [me])).al A9)) ⟨_, A9.k (A8.k M7.at_)⟩ A10.new
  have nono : no ∉ [o, na, sk, sd] := fun hz => by
    have := (S3.keep ((A8.fr (S := [])).al A9) (fun _ _ z => by cases z)).there _ hz
    exact this A10.new
  replace S3 := S3.keep g0 (fun _ _ z => by cases z)
  replace F3 : Fr [me] H H10 := F3.trans g0.sub0
  refine ⟨no, dxn, d1, d2, [], [], rfl, A10.at_, A10.k (A9.k A8.at_), A10.k A9.at_, fun ka wa ta dn H11 k1 k2 k3 e1 e2 e3 hno hka hwa hta f11 => ⟨rfl, ?_⟩⟩
  obtain ⟨fka, mka⟩ := fresh F3 ⟨_, ho⟩ k1
  obtain ⟨fwa, mwa⟩ := fresh F3 ⟨_, ho⟩ k2
  obtain ⟨fta, mta⟩ := fresh F3 ⟨_, ho⟩ k3
  have nn : na ≠ ka ∧ na ≠ wa ∧ na ≠ ta := ⟨ne_of_none S3.nm k1, ne_of_none S3.nm k2, ne_of_none S3.nm k3⟩
  replace ho := f11.keep _ _ ho (by simp [mno.symm])
  replace S3 := S3.keep f11 (fun x hx hz => nono (by rw [← List.mem_singleton.mp hz]; exact hx))
  replace F3 : Fr [me] H H11 := Fr.drop ((F3.mono (S' := no :: [me]) (by simp)).trans (f11.mono (by simp))) fno
  have N0 : NtAt c H11 no ka wa ta n Nt0 := ⟨⟨dn, hno⟩, ⟨[], hka, fun p => ⟨fun _ => rfl, fun _ _ z => by cases z⟩⟩, ⟨[], hwa, fun p => rfl⟩, ⟨[], hta, fun p => rfl⟩, ⟨[], hka, .nil _⟩, ⟨[], hwa, .nil _⟩, ⟨[], hta, .nil _⟩, e1, e2, e3⟩
  have djn : Disj [no, ka, wa, ta] [me] := fun x hx hz => by
    rw [List.mem_singleton.mp hz] at hx
    simp only [List.mem_cons, List.not_mem_nil, or_false] at hx
    rcases hx with e | e | e | e
    · exact mno e.symm
    · exact mka e.symm
    · exact mwa e.symm
    · exact mta e.symm
  push_cast [ho]
  refine ⟨lt1000 rfl, fun H12 M12 => ?_⟩
  replace ho := M12.at_
  replace S3 := S3.keep (M12.fr (S := [me]) (by simp)) djm
  replace N0 := N0.keep (M12.fr (S := [me]) (by simp)) djn
  replace F3 := F3.mu M12 (by simp)
  unfold t_Machine___init___6; refine st_seq ?_
  push_cast
  intro ra H13 A13
  obtain ⟨fra, mra⟩ := fresh F3 ⟨_, ho⟩ A13.new
  have nr : ∀ x ∈ [na, ka, wa, ta], x ≠ ra := fun x hx e => by
    simp only [List.mem_cons, List.not_mem_nil, or_false] at hx
    rcases hx with h | h | h | h
    · exact S3.there na (by simp) (by rw [← h, e]; exact A13.new)
    · exact N0.there ka (by simp) (by rw [← h, e]; exact A13.new)
    · exact N0.there wa (by simp) (by rw [← h, e]; exact A13.new)
    · exact N0.there ta (by simp) (by rw [← h, e]; exact A13.new)
  replace ho := A13.k ho
  have hra := A13.at_
  replace S3 := S3.keep (A13.fr (S := [])) (fun _ _ z => by cases z)
  replace N0 := N0.keep (A13.fr (S := [])) (fun _ _ z => by cases z)
  replace F3 := F3.al A13
  push_cast [ho]
  refine ⟨lt1000 rfl, fun H14 M14 => ?_⟩
  replace hra := M14.k hra (ne_of hra ho (by simp)); replace ho := M14.at_
  replace S3 := S3.keep (M14.fr (S := [me]) (by simp)) djm
  replace N0 := N0.keep (M14.fr (S := [me]) (by simp)) djn
  replace F3 := F3.mu M14 (by simp)
  unfold t_Machine___init___7; refine st_seq ?_
  push_cast
  intro fa H15 A15
  obtain ⟨ffa, mfa⟩ := fresh F3 ⟨_, ho⟩ A15.new
  have nf : ∀ x ∈ [na, ka, wa, ta], x ≠ fa := fun x hx e => by
    simp only [List.mem_cons, List.not_mem_nil, or_false] at hx
    rcases hx with h | h | h | h
    · exact S3.there na (by simp) (by rw [← h, e]; exact A15.new)
    · exact N0.there ka (by simp) (by rw [← h, e]; exact A15.new)
    · exact N0.there wa (by simp) (by rw [← h, e]; exact A15.new)
    · exact N0.there ta (by simp) (by rw [← h, e]; exact A15.new)
  have nrf : ra ≠ fa := ne_of_none hra A15.new
  replace ho := A15.k ho; replace hra := A15.k hra
  have hfa := A15.at_
  replace S3 := S3.keep (A15.fr (S := [])) (fun _ _ z => by cases z)
  replace N0 := N0.keep (A15.fr (S := [])) (fun _ _ z => by cases z)
  replace F3 := F3.al A15
  push_cast [ho]
  refine ⟨lt1000 rfl, fun H16 M16 => ?_⟩
  replace hra := M16.k hra (ne_of hra ho (by simp)); replace hfa := M16.k hfa (ne_of hfa ho (by simp)); replace ho := M16.at_
  replace S3 := S3.keep (M16.fr (S := [me]) (by simp)) djm
  replace N0 := N0.keep (M16.fr (S := [me]) (by simp)) djn
  replace F3 := F3.mu M16 (by simp)
  unfold t_Machine___init___8; refine st_seq ?_
  push_cast [ho]
  refine ⟨lt1000 rfl, fun H17 M17 => ?_⟩
  replace hra := M17.k hra (ne_of hra ho (by simp)); replace hfa := M17.k hfa (ne_of hfa ho (by simp)); replace ho := M17.at_
  replace S3 := S3.keep (M17.fr (S := [me]) (by simp)) djm
  replace N0 := N0.keep (M17.fr (S := [me]) (by simp)) djn
  replace F3 := F3.mu M17 (by simp)
  push_cast [ho]
  refine ⟨lt1000 rfl, fun H18 M18 => ?_⟩
  replace hra := M18.k hra (ne_of hra ho (by simp)); replace hfa := M18.k hfa (ne_of hfa ho (by simp)); replace ho := M18.at_
  replace S3 := S3.keep (M18.fr (S := [me]) (by simp)) djm
  replace N0 := N0.keep (M18.fr (S := [me]) (by simp)) djn
  replace F3 := F3.mu M18 (by simp)
  refine k ⟨me, o, na, sk, sd, no, ka, wa, ta, ra, fa, vc⟩ H18 rfl rfl ?_ ⟨⟨dx, ho⟩, S3, N0, ⟨[], hra, fun p => ⟨fun _ => rfl, fun _ z => by cases z⟩⟩, ⟨[], hfa, fun p z => absurd rfl z⟩, ⟨[], hra, .nil _⟩, ⟨[], hfa, .nil _⟩, ?_⟩ F3
  · intro x hx
    simp only [MMA.fp, List.mem_cons, List.not_mem_nil, or_false] at hx
    rcases hx with rfl | rfl | rfl | rfl | rfl | rfl | rfl | rfl | rfl | rfl | rfl
    · exact .inl rfl
    all_goals exact .inr (by assumption)
  · simp only [List.nodup_cons, List.mem_cons, List.not_mem_nil, or_false, not_or, not_false_eq_true, List.nodup_nil, and_true]
    exact ⟨⟨nn.1, nn.2.1, nn.2.2, nr na (by simp), nf na (by simp)⟩, ⟨e1, e2, nr ka (by simp), nf ka (by simp)⟩, ⟨e3, nr wa (by simp), nf wa (by simp)⟩, ⟨nr ta (by simp), nf ta (by simp)⟩, nrf⟩
/-! ### one step -/
theorem MmAt.stepS {c : CA} {H H' : Hp} {A : MMA} {n : Nat} {L : Lim} {m : MC} {sk' : Addr} {s' : MS} (h : MmAt c H A n L m) (f : Fr [A.o, A.na, A.sk, A.sd] H H') (S : StAt c H' A.o A.na sk' A.sd s') : MmAt c H' { A with sk := sk' } n L { m with s := s' } := by
  have dj := h.dj
  obtain ⟨⟨dx, h1⟩, _, h3, h4, h5, h6, h7, nd⟩ := h
  have no : ∀ x ∈ [A.me, A.no, A.ka, A.wa, A.ta, A.ra, A.fa], x ∉ [A.o, A.na, A.sk, A.sd] := fun x hx hz => dj x hz hx
  refine ⟨⟨dx, f.keep _ _ h1 (no _ (by simp))⟩, S, h3.keep f fun x hx => no x ?_, h4.keep f (no _ (by simp)), h5.keep f (no _ (by simp)), h6.keep f (no _ (by simp)), h7.keep f (no _ (by simp)), nd⟩
  simp only [List.mem_cons, List.not_mem_nil, or_false] at hx ⊢
  rcases hx with rfl | rfl | rfl | rfl <;> simp
theorem rdy_put {H H' : Hp} {a : Addr} {f : Nat → Option (List Qr)} {i : Nat} {rows : List Qr} {v : V} {ks : List (Key × V)} (h : RdyAt H a f) (ha : H a = some (.dK ks)) (ht : Tp H (quickD rows) v) (M : Mu H a (.dK (putK ks (Sum.inl ((i : Nat) : Int)) v)) H') : RdyAt H' a fun j => if j = i then some rows else f j := by
  obtain ⟨ks', h1, h2⟩ := h.dic
  rw [ha] at h1
  cases h1
  refine ⟨_, M.at_, fun j => ?_⟩
  rw [valV_nK]
  by_cases hj : j = i
  · rw [if_pos hj, if_pos hj]
    refine ⟨fun z => (by cases z), fun r z => ?_⟩
    cases z
    exact ⟨v, rfl, ht.tups M.tu⟩
  · rw [if_neg hj, if_neg hj]
    refine ⟨(h2 j).1, fun r z => ?_⟩
    obtain ⟨v, h3, h4⟩ := (h2 j).2 r z
    exact ⟨v, h3, h4.tups M.tu⟩
theorem rdy_drop {H H' : Hp} {a : Addr} {f : Nat → Option (List Qr)} {i : Nat} {ks : List (Key × V)} (h : RdyAt H a f) (ha : H a = some (.dK ks)) (M : Mu H a (.dK (dropK ks (Sum.inl ((i : Nat) : Int)))) H') : RdyAt H' a fun j => if j = i then none else f j := by
  obtain ⟨ks', h1, h2⟩ := h.dic
  rw [ha] at h1
  cases h1
  have dr : ∀ (l : List (Key × V)) (j : Nat), valV (dropK l (Sum.inl ((i : Nat) : Int))) (nK j) = if j = i then none else valV l (nK j) := by
    intro l j
    induction l with
    | nil => simp [dropK, valV]
    | cons p r ih =>
      by_cases hp : p.1 = Sum.inl ((i : Nat) : Int)
      · have e : dropK (p :: r) (Sum.inl ((i : Nat) : Int)) = dropK r (Sum.inl ((i : Nat) : Int)) := by unfold dropK; rw [List.filter_cons, if_neg (by simp [hp])]
        rw [e, ih]
        by_cases hj : j = i
        · simp [hj]
        · rw [if_neg hj, if_neg hj, valV_neg]
          intro z
          rw [hp] at z
          exact hj (nK_inj _ _ z).symm
      · have e : dropK (p :: r) (Sum.inl ((i : Nat) : Int)) = p :: dropK r (Sum.inl ((i : Nat) : Int)) := by unfold dropK; rw [List.filter_cons, if_pos (by simp [hp])]
        rw [e]
        by_cases hz : p.1 = nK j
        · rw [valV_pos hz, valV_pos hz, if_neg]
          rintro rfl
          exact hp hz
        · rw [valV_neg hz, valV_neg hz, ih]
  refine ⟨_, M.at_, fun j => ?_⟩
  rw [dr]
  by_cases hj : j = i
  · rw [if_pos hj, if_pos hj]
    exact ⟨fun _ => rfl, fun r z => by cases z⟩
  · rw [if_neg hj, if_neg hj]
    refine ⟨(h2 j).1, fun r z => ?_⟩
    obtain ⟨v, h3, h4⟩ := (h2 j).2 r z
    exact ⟨v, h3, h4.tups M.tu⟩
theorem DLt.drop {H H' : Hp} {a : Addr} {n : Nat} {k : Key} {ks : List (Key × V)} (h : DLt H a n) (ha : H a = some (.dK ks)) (M : Mu H a (.dK (dropK ks k)) H') : DLt H' a n := by
  obtain ⟨ks', h1, h2⟩ := h
  rw [ha] at h1
  cases h1
  exact ⟨_, M.at_, h2.drop k⟩
theorem fel_put {H H' : Hp} {a : Addr} {f f' : Nat → Option (List Qr)} {x : Nat → Nat} {i j : Nat} {ks : List (Key × V)} (h : FelAt H a f x) (ha : H a = some (.dK ks)) (M : Mu H a (.dK (putK ks (Sum.inl ((i : Nat) : Int)) (.int (j : Nat)))) H') (hf : ∀ p, p ≠ i → f' p ≠ none → f p ≠ none) : FelAt H' a f' fun p => if p = i then j else x p := by
  obtain ⟨ks', h1, h2⟩ := h.dic
  rw [ha] at h1
  cases h1
  refine ⟨_, M.at_, fun p hp => ?_⟩
  rw [valV_nK]
  by_cases h : p = i
  · rw [if_pos h, if_pos h]
  · rw [if_neg h, if_neg h]; exact h2 p (hf p h hp)
theorem rd_Machine_plain {K : PySem.W.Frag} {c : CA} {vs : List V} {H : Hp} {Q : VK} {E : XK} (h : sp_Machine_plain c vs H Q E) : t_Machine_plain K c { nx := fun _ H' => Q .non H', rt := Q } (start ["_", "_", "_"] vs) H := by
  obtain ⟨A, code, hts, s0, L, m, rfl, hrd, ⟨M, tc, T, cl, rm, g⟩, hl, k⟩ := h
  show t_Machine_plain K c _ [some (.ref A.me), none, none] H
  have dj := M.dj
  obtain ⟨dm, dmn⟩ := M.dm
  have nd := M.nd
  simp only [List.nodup_cons, List.mem_cons, List.not_mem_nil, or_false, not_or, not_false_eq_true, List.nodup_nil, and_true] at nd
  obtain ⟨⟨x1, x2, x3, x4, x5⟩, ⟨y1, y2, y3, y4⟩, ⟨z1, z2, z3⟩, ⟨w1, w2⟩, u1⟩ := nd
  obtain ⟨dx, hme⟩ := id M.ins
  obtain ⟨dx2, la, ho, hla⟩ := id M.st.ins
  obtain ⟨dn, hno⟩ := id M.nt.ins
  have fit := g.in_.fit T
  have small := g.in_.small T
  have sb := g.bd m.s (.refl _)
  obtain ⟨r, hr, _, _⟩ := fit.row
  have pl : m.s.place < code.length := (List.getElem?_eq_some_iff.mp hr).1
  unfold t_Machine_plain; refine st_seq ?_
  push_cast [hme, mm_state]
  unfold t_Machine_plain_1; refine st_seq ?_
  push_cast [ho, st_place]
  unfold t_Machine_plain_2; refine st_seq ?_
  push_cast [hme, mm_notes, hno, nt_see, mm_code]
  refine ⟨A.no, A.ka, A.wa, A.ta, A.vc, code, A.o, A.na, A.sk, A.sd, m.s, m.nt, rfl, tc, cl, M.st, fit, M.nt, fun H1 N1 f1 => ?_⟩
  have sub3 : ∀ b ∈ [A.ka, A.wa, A.ta], b ∈ A.fp := by simp +contextual [MMA.fp]
  have F1 : Fr A.fp H H1 := f1.mono sub3
  have ndj : ∀ x ∈ A.st, x ∉ [A.ka, A.wa, A.ta] := fun x hx hz => dj x hx (by
    simp only [List.mem_cons, List.not_mem_nil, or_false] at hz ⊢
    rcases hz with h | h | h <;> simp [h])
  have S1 := M.st.keep f1 ndj
  have hme1 := f1.keep _ _ hme (fun hz => dm A.me (by simp) (by
    simp only [List.mem_cons, List.not_mem_nil, or_false] at hz ⊢
    rcases hz with h | h | h <;> simp [h]))
  have nra : A.ra ∉ [A.ka, A.wa, A.ta] := by simp [eq_comm (a := A.ra)]; exact ⟨y3, z2, w1⟩
  have nfa : A.fa ∉ [A.ka, A.wa, A.ta] := by simp [eq_comm (a := A.fa)]; exact ⟨y4, z3, w2⟩
  have R1 := M.rdy.keep f1 nra
  have E1 := M.fel.keep f1 nfa
  have lr1 := M.lr.keep f1 nra
  have lf1 := M.lf.keep f1 nfa
  have M1 : MmAt c H1 A code.length L { m with nt := m.seen code } := ⟨⟨dx, hme1⟩, S1, N1, R1, E1, lr1, lf1, M.nd⟩
  have tc1 := tc.tups f1.tu
  obtain ⟨ca, rws, y, hvc, hca, hlen, hix, ty⟩ := code_at tc1 hr
  obtain ⟨ra', ys, rfl, hra'⟩ := tp_rw ty
  obtain ⟨dn1, hno1⟩ := id N1.ins
  unfold t_Machine_plain_3
  refine st_seqP fun P hP => ?_
  have tail : ∀ (H5 : Hp) (m5 : MC), MmAt c H5 A code.length L m5 → m5.s = m.s → Fr A.fp H H5 → MStep code L m { m5 with s := step code m.s } → P [some (.ref A.me), some (.ref A.o), some (.int (m.s.place : Nat))] H5 := by
    intro H5 m5 M5 e5 F5 st
    refine hP _ _ ?_
    obtain ⟨dx5, hme5⟩ := id M5.ins
    have S5 := M5.st
    rw [e5] at S5
    push_cast [hme5, mm_code]
    refine ⟨A.vc, code, A.o, A.na, A.sk, A.sd, m.s, rfl, tc.tups F5.tu, S5, g.in_.ok, fit, by omega, sb, fun H6 sk' S6 hsk f6 => ?_⟩
    refine k H6 { A with sk := sk' } _ st (M5.stepS f6 S6) ⟨sk', rfl, ?_⟩ (F5.trans (f6.mono (by simp +contextual [MMA.fp])))
    rcases hsk with e | e
    · exact .inl e
    · exact .inr (F5.free e fun hz => M5.there _ hz e)
  push_cast [hme1, mm_code, hvc, hca, hix, hra']
  by_cases ht : r = .top
  · subst ht
    have itop : isTop code m.s.place = true := isTop_iff.mpr hr
    push_cast [Rw.wx, mm_notes, hno1, nt_count]
    refine ⟨A.no, A.ka, A.wa, A.ta, code.length, m.s.place, _, rfl, N1, ?_⟩
    push_cast [hme1, mm_hot]
    by_cases hh : L.hot ≤ (m.seen code).tops m.s.place
    · rw [if_pos (show ((L.hot : Nat) : Int) ≤ (((m.nt.see code m.s).tops m.s.place : Nat) : Int) from Int.ofNat_le.mpr hh)]
      refine st_seq ?_
      push_cast [hme1, mm_code, mm_notes, mm_room]
      refine ⟨A.vc, code, hts, m.s.place, L.room, A.no, A.ka, A.wa, A.ta, _, _, rfl, tc1, T, hr, rm, ⟨dn1, hno1⟩, N1.kin, N1.way, fun v rows H2 hq hlr tv f2 => ?_⟩
      have M2 := M1.keep0 f2
      obtain ⟨dx2', hme2⟩ := id M2.ins
      obtain ⟨rks, hra2, lrk⟩ := id M2.lr
      have rl := lrk.len
      push_cast [hme2, mm_ready, hra2]
      refine ⟨bigL (by omega), fun H3 M3 => ?_⟩
      have f3 : Fr [A.ra] H2 H3 := M3.fr (by simp)
      have dra : Disj A.st [A.ra] := fun x hx hz => dj x hx (by rw [List.mem_singleton.mp hz]; simp)
      have dnr : Disj [A.no, A.ka, A.wa, A.ta] [A.ra] := fun x hx hz => by
        rw [List.mem_singleton.mp hz] at hx
        simp only [List.mem_cons, List.not_mem_nil, or_false] at hx
        rcases hx with e | e | e | e
        · exact dm A.no (by simp) (by rw [← e]; simp)
        · exact y3 e.symm
        · exact z2 e.symm
        · exact w1 e.symm
      have dnf : Disj [A.no, A.ka, A.wa, A.ta] [A.fa] := fun x hx hz => by
        rw [List.mem_singleton.mp hz] at hx
        simp only [List.mem_cons, List.not_mem_nil, or_false] at hx
        rcases hx with e | e | e | e
        · exact dm A.no (by simp) (by rw [← e]; simp)
        · exact y4 e.symm
        · exact z3 e.symm
        · exact w2 e.symm
      have hme3 := f3.keep _ _ hme2 (fun hz => dm A.me (by simp) (by rw [List.mem_singleton.mp hz]; simp))
      have S3 := M2.st.keep f3 dra
      have N3 := M2.nt.keep f3 dnr
      have R3 := rdy_put M2.rdy hra2 tv M3
      have lr3 := M2.lr.put hra2 pl M3
      have E3 := M2.fel.keep f3 (by simp [eq_comm (a := A.fa), u1])
      have lf3 := M2.lf.keep f3 (by simp [eq_comm (a := A.fa), u1])
      obtain ⟨fks, hfa3, lfk⟩ := id lf3
      have fl := lfk.len
      refine st_seq ?_
      push_cast [hme3, mm_fell, hfa3]
      refine ⟨bigL (by omega), fun H4 M4 => ?_⟩
      have f4 : Fr [A.fa] H3 H4 := M4.fr (by simp)
      have hme4 := f4.keep _ _ hme3 (fun hz => dm A.me (by simp) (by rw [List.mem_singleton.mp hz]; simp))
      have S4 := S3.keep f4 (fun x hx hz => dj x hx (by rw [List.mem_singleton.mp hz]; simp))
      have N4 := N3.keep f4 dnf
      have R4 := R3.keep f4 (by simp [u1])
      have lr4 := lr3.keep f4 (by simp [u1])
      have E4 := fel_put (j := 0) (f' := fun j => if j = m.s.place then some rows else m.ready j) E3 hfa3 M4 (fun p hp z => by rw [if_neg hp] at z; exact z)
      have lf4 := lf3.put hfa3 pl M4
      push_cast [hme4, mm_makings]
      refine ⟨mm_len, fun H5 M5 => ?_⟩
      have f5 : Fr [A.me] H4 H5 := M5.fr (by simp)
      have hme5 := M5.at_
      rw [mp_makings] at hme5
      have nme : ∀ x ∈ [A.no, A.ka, A.wa, A.ta, A.ra, A.fa], x ∉ [A.me] := fun x hx hz => by
        rw [List.mem_singleton.mp hz] at hx
        rcases List.mem_cons.mp hx with e | hx
        · exact dmn e
        · exact dm A.me (by simp) hx
      refine tail H5 { m with nt := m.seen code, ready := fun j => if j = m.s.place then some rows else m.ready j, fell := fun j => if j = m.s.place then 0 else m.fell j, made := m.made + 1 }
        ⟨⟨_, hme5⟩, S4.keep f5 (fun x hx hz => dj x hx (by rw [List.mem_singleton.mp hz]; simp)), N4.keep f5 (fun x hx => nme x (by
          simp only [List.mem_cons, List.not_mem_nil, or_false] at hx ⊢
          rcases hx with h | h | h | h <;> simp [h])), R4.keep f5 (nme _ (by simp)), E4.keep f5 (nme _ (by simp)), lr4.keep f5 (nme _ (by simp)), lf4.keep f5 (nme _ (by simp)), M.nd⟩ rfl ?_ (.make hl hrd itop hh hq hlr)
      have G1 : Fr A.fp H1 H5 := (((f2.sub0 (S := A.fp)).trans (f3.mono (by simp [MMA.fp]))).trans (f4.mono (by simp [MMA.fp]))).trans (f5.mono (by simp [MMA.fp]))
      exact F1.trans G1
    · rw [if_neg (show ¬ ((L.hot : Nat) : Int) ≤ (((m.nt.see code m.s).tops m.s.place : Nat) : Int) from fun z => hh (Int.ofNat_le.mp z))]
      exact tail H1 _ M1 rfl F1 (.plain hl hrd fun _ => by omega)
  · have e11 := ntop r ht
    push_cast [e11]
    refine tail H1 _ M1 rfl F1 (.plain hl hrd fun z => ?_)
    rw [isTop_iff, hr] at z
    exact absurd (Option.some.inj z) ht
theorem fall_row {rows : List Qr} {d : QC} {n : Nat} {s' : MS} (h : qstep rows d = .fall n s') : ∃ r, rows[n]? = some r := by
  unfold qstep at h
  cases hr : rows[d.at_]? with
  | none => rw [hr] at h; cases h
  | some r =>
    rw [hr] at h
    simp only at h
    have e : n = d.at_ := by
      cases r with
      | turn => simp only [qrow] at h; split at h <;> cases h
      | is s k o => simp only [qrow] at h; split at h <;> cases h; rfl
      | so s k o => simp only [qrow] at h; split at h <;> cases h; rfl
      | leave o => simp only [qrow] at h; cases h; rfl
      | op g k s a b => simp only [qrow] at h; split at h <;> cases h
      | _ => simp only [qrow] at h; cases h
    rw [e]
    exact ⟨r, hr⟩
theorem wx_22 (r : Qr) : (r.wx = wd 22) = (isLeave r = true) := by
  cases r with
  | op g _ _ _ _ => cases g <;> simp [Qr.wx, Sg.s, Sg.ix, wd_eq, isLeave]
  | _ => simp [Qr.wx, wd_eq, isLeave]
theorem rd_Machine_quick {K : PySem.W.Frag} {c : CA} {vs : List V} {H : Hp} {Q : VK} {E : XK} (h : sp_Machine_quick c vs H Q E) : t_Machine_quick K c { nx := fun _ H' => Q .non H', rt := Q } (start ["_", "_", "_", "_"] vs) H := by
  obtain ⟨A, code, hts, s0, L, m, rows, rfl, hrd, ⟨M, tc, T, cl, rm, g⟩, hl, k⟩ := h
  show t_Machine_quick K c _ [some (.ref A.me), some (.int (m.s.place : Nat)), none, none] H
  obtain ⟨dx, hme⟩ := id M.ins
  obtain ⟨rks, hra, vra⟩ := id M.rdy.dic
  obtain ⟨v, hv, tv⟩ := (vra m.s.place).2 rows hrd
  have hv' : valV rks (Sum.inl ((m.s.place : Nat) : Int)) = some v := hv
  have pl : m.s.place < code.length := g.in_.lt T
  obtain ⟨h0, E⟩ := g.quick T rm hl hrd
  unfold t_Machine_quick; refine st_seq ?_
  push_cast [hme, mm_ready, hra, hv']
  unfold t_Machine_quick_1; refine st_seq ?_
  push_cast [hme, mm_state]
  refine ⟨v, rows, A.o, A.na, A.sk, A.sd, m.s, rfl, tv, M.st, h0, E.safe, fun H1 sk' d n s' re hq S1 hsk f1 => ?_, fun H1 sk' d s' re hq S1 hsk f1 => ?_⟩
  · have M1 := M.stepS f1 S1
    have F1 : Fr A.fp H H1 := f1.mono (by simp +contextual [MMA.fp])
    have nx : MNx H A { A with sk := sk' } := ⟨sk', rfl, hsk⟩
    obtain ⟨r, hr⟩ := fall_row hq
    obtain ⟨a, ws, y, rfl, ha, hix, ty⟩ := quick_at (tv.tups f1.tu) hr
    obtain ⟨p, ys, rfl, hp⟩ := tp_qr ty
    push_cast [ha, hix, hp]
    refine iteT' (Int.natCast_nonneg _) ?_
    cases il : isLeave r with
    | true =>
      have e22 : (r.wx = wd 22) = True := by rw [wx_22, il]; simp
      push_cast [e22]
      exact k H1 _ _ (.left hl hrd re hq hr il) M1 nx F1
    | false =>
      have e22 : (r.wx = wd 22) = False := by rw [wx_22, il]; simp
      push_cast [e22]
      have dj := M1.dj
      obtain ⟨dm, dmn⟩ := M1.dm
      have nd := M1.nd
      simp only [List.nodup_cons, List.mem_cons, List.not_mem_nil, or_false, not_or, not_false_eq_true, List.nodup_nil, and_true] at nd
      obtain ⟨⟨x1, x2, x3, x4, x5⟩, ⟨y1, y2, y3, y4⟩, ⟨z1, z2, z3⟩, ⟨w1, w2⟩, u1⟩ := nd
      obtain ⟨dx1, hme1⟩ := id M1.ins
      simp only at hme1 dj dm dmn x1 x2 x3 x4 x5 y1 y2 y3 y4 z1 z2 z3 w1 w2 u1
      obtain ⟨_, S1, N1, R1, E1, lr1, lf1, nd1⟩ := M1
      simp only at S1 N1 R1 E1 lr1 lf1
      have nme : ∀ x ∈ [A.no, A.ka, A.wa, A.ta, A.ra, A.fa], x ∉ [A.me] := fun x hx hz => by
        rw [List.mem_singleton.mp hz] at hx
        rcases List.mem_cons.mp hx with e | hx
        · exact dmn e
        · exact dm A.me (by simp) hx
      have nnt : ∀ y, y ∈ [A.ka, A.wa, A.ta, A.ra, A.fa] → y ∉ [A.ka, A.wa, A.ta] → Disj [A.no, A.ka, A.wa, A.ta] [y] := fun y hy hn x hx hz => by
        rw [List.mem_singleton.mp hz] at hx
        rcases List.mem_cons.mp hx with e | hx
        · exact dm A.no (by simp) (by rw [← e]; exact hy)
        · exact hn hx
      have nra : A.ra ∉ [A.ka, A.wa, A.ta] := by simp [eq_comm (a := A.ra)]; exact ⟨y3, z2, w1⟩
      have nfa : A.fa ∉ [A.ka, A.wa, A.ta] := by simp [eq_comm (a := A.fa)]; exact ⟨y4, z3, w2⟩
      refine st_seq ?_
      push_cast [hme1, mm_falls]
      refine ⟨mm_len, fun H2 M2 => ?_⟩
      have hme2 := M2.at_
      rw [mp_falls] at hme2
      have f2 : Fr [A.me] H1 H2 := M2.fr (by simp)
      have S2 := S1.keep f2 (fun x hx hz => dj x hx (by rw [List.mem_singleton.mp hz]; simp))
      have N2 := N1.keep f2 (fun x hx => nme x (by
        simp only [List.mem_cons, List.not_mem_nil, or_false] at hx ⊢
        rcases hx with h | h | h | h <;> simp [h]))
      have R2 := R1.keep f2 (nme _ (by simp))
      have E2 := E1.keep f2 (nme _ (by simp))
      have lr2 := lr1.keep f2 (nme _ (by simp))
      have lf2 := lf1.keep f2 (nme _ (by simp))
      obtain ⟨fks, hfa2, vfa⟩ := id E2.dic
      have fl := lf2.len hfa2
      have vf : valV fks (Sum.inl ((m.s.place : Nat) : Int)) = some (.int (m.fell m.s.place : Nat)) := vfa m.s.place (by rw [hrd]; simp)
      refine st_seq ?_
      push_cast [hme2, mm_fell, hfa2, vf]
      refine ⟨bigL (by omega), fun H3 M3 => ?_⟩
      have M3' : Mu H2 A.fa (.dK (putK fks (Sum.inl ((m.s.place : Nat) : Int)) (.int ((m.fell m.s.place + 1 : Nat) : Int)))) H3 := M3
      have f3 : Fr [A.fa] H2 H3 := M3.fr (by simp)
      have hme3 := f3.keep _ _ hme2 (fun hz => dm A.me (by simp) (by rw [List.mem_singleton.mp hz]; simp))
      have S3 := S2.keep f3 (fun x hx hz => dj x hx (by rw [List.mem_singleton.mp hz]; simp))
      have N3 := N2.keep f3 (nnt A.fa (by simp) nfa)
      have R3 := R2.keep f3 (by simp [u1])
      have lr3 := lr2.keep f3 (by simp [u1])
      have E3 := fel_put (f' := m.ready) E2 hfa2 M3' (fun p _ z => z)
      have lf3 := lf2.put hfa2 pl M3
      have ef : (fun p => if p = m.s.place then m.fell m.s.place + 1 else m.fell p) = fun j => if j = m.s.place then m.fell j + 1 else m.fell j := by
        funext j
        by_cases h : j = m.s.place
        · subst h; simp
        · simp [h]
      rw [ef] at E3
      have hfa3 := M3.at_
      have vf3 : valV (putK fks (Sum.inl ((m.s.place : Nat) : Int)) (.int ((m.fell m.s.place : Nat) + 1))) (Sum.inl ((m.s.place : Nat) : Int)) = some (.int ((m.fell m.s.place : Nat) + 1)) := by rw [valV_put, if_pos rfl]
      have F3 : Fr A.fp H H3 := (F1.trans (f2.mono (by simp [MMA.fp]))).trans (f3.mono (by simp [MMA.fp]))
      push_cast [hme3, mm_fell, hfa3, vf3, mm_pat]
      by_cases hpt : L.pat < m.fell m.s.place + 1
      · rw [if_pos (show ((L.pat : Nat) : Int) < ((m.fell m.s.place : Nat) : Int) + 1 by omega)]
        obtain ⟨rks3, hra3, vra3⟩ := id R3.dic
        obtain ⟨v3, hv3, tv3⟩ := (vra3 m.s.place).2 rows hrd
        have hv3' : valV rks3 (Sum.inl ((m.s.place : Nat) : Int)) = some v3 := hv3
        refine st_seq ?_
        push_cast [hme3, mm_ready, hra3, hv3']
        intro H4 M4
        have f4 : Fr [A.ra] H3 H4 := M4.fr (by simp)
        have hme4 := f4.keep _ _ hme3 (fun hz => dm A.me (by simp) (by rw [List.mem_singleton.mp hz]; simp))
        have S4 := S3.keep f4 (fun x hx hz => dj x hx (by rw [List.mem_singleton.mp hz]; simp))
        have N4 := N3.keep f4 (nnt A.ra (by simp) nra)
        have R4 := rdy_drop R3 hra3 M4
        have lr4 := lr3.drop hra3 M4
        have E4 := E3.keep f4 (by simp [eq_comm (a := A.fa), u1])
        have lf4 := lf3.keep f4 (by simp [eq_comm (a := A.fa), u1])
        obtain ⟨dn4, hno4⟩ := id N4.ins
        push_cast [hme4, mm_notes, hno4, nt_forget]
        refine ⟨A.no, A.ka, A.wa, A.ta, code.length, m.s.place, m.nt, rfl, N4, pl, cl, fun H5 N5 f5 => ?_⟩
        have hme5 := f5.keep _ _ hme4 (fun hz => dm A.me (by simp) (by rw [List.mem_singleton.mp hz]; simp))
        have S5 := S4.keep f5 (fun x hx hz => dj x hx (by rw [List.mem_singleton.mp hz]; simp))
        have R5 := R4.keep f5 (by simp [eq_comm (a := A.ra), w1])
        have lr5 := lr4.keep f5 (by simp [eq_comm (a := A.ra), w1])
        have E5 := E4.keep f5 (by simp [eq_comm (a := A.fa), w2])
        have lf5 := lf4.keep f5 (by simp [eq_comm (a := A.fa), w2])
        obtain ⟨fk5, hfa5, vfa5⟩ := id E5.dic
        have E6 : FelAt H5 A.fa (fun j => if j = m.s.place then none else m.ready j) (fun j => if j = m.s.place then m.fell j + 1 else m.fell j) := ⟨fk5, hfa5, fun p hp => vfa5 p (by
          by_cases h : p = m.s.place
          · rw [if_pos h] at hp; exact absurd rfl hp
          · rw [if_neg h] at hp; exact hp)⟩
        exact k H5 { A with sk := sk' } _ (.drop hl hrd re hq hr il hpt) ⟨⟨_, hme5⟩, S5, N5, R5, E6, lr5, lf5, nd1⟩ nx ((F3.trans (f4.mono (by simp [MMA.fp]))).trans (f5.mono (by simp [MMA.fp])))
      · rw [if_neg (show ¬ ((L.pat : Nat) : Int) < ((m.fell m.s.place : Nat) : Int) + 1 by omega)]
        exact k H3 { A with sk := sk' } _ (.fell hl hrd re hq hr il (by omega)) ⟨⟨_, hme3⟩, S3, N3, R3, E3, lr3, lf3, nd1⟩ nx F3
  · have M1 := M.stepS f1 S1
    have F1 : Fr A.fp H H1 := f1.mono (by simp +contextual [MMA.fp])
    push_cast
    rw [if_neg (by decide)]
    exact k H1 { A with sk := sk' } _ (.over hl hrd re hq) M1 ⟨sk', rfl, hsk⟩ F1
def FinInv (c : CA) (code : List Rw) (hts : List Nat) (s0 : MS) (L : Lim) (H0 : Hp) (A : MMA) (m0 : MC) (k : Nat) (σ : L2.St) (H : Hp) : Prop := ∃ (A' : MMA) (m' : MC), σ = [some (.ref A.me), some (.ref A.o)] ∧ MOn c H A' code hts s0 L m' ∧ MReach code L m0 m' ∧ MNx H0 A A' ∧ Fr A.fp H0 H ∧ (m'.s.last = none → mu code m'.s < k)
theorem rd_Machine_finish {K : PySem.W.Frag} {c : CA} {vs : List V} {H : Hp} {Q : VK} {E : XK} (h : sp_Machine_finish c vs H Q E) : t_Machine_finish K c { nx := fun _ H' => Q .non H', rt := Q } (start ["_", "_"] vs) H := by
  obtain ⟨A, code, hts, s0, L, m, rfl, ⟨M, tc, T, cl, rm, g⟩, k⟩ := h
  show t_Machine_finish K c _ [some (.ref A.me), none] H
  obtain ⟨dx, hme⟩ := id M.ins
  unfold t_Machine_finish; refine st_seq ?_
  push_cast [hme, mm_state]
  unfold t_Machine_finish_1; refine st_seq ?_
  refine ⟨FinInv c code hts s0 L H A m, ⟨_, A, m, rfl, ⟨M, tc, T, cl, rm, g⟩, .refl _, .refl _ _, .refl _ _, fun _ => Nat.lt_succ_self _⟩, ?_⟩
  rintro kk σ H1 ⟨A', m', rfl, ⟨M1, tc1, _, _, _, g1⟩, re, nx, F1, mk⟩
  have nx' := nx
  obtain ⟨sk', eA, hsk⟩ := nx'
  have eme : A'.me = A.me := by rw [eA]
  have eo : A'.o = A.o := by rw [eA]
  obtain ⟨dx1, hme1⟩ := id M1.ins
  obtain ⟨dx2, la, ho, hla⟩ := id M1.st.ins
  rw [eme] at hme1
  rw [eo] at ho
  simp only [tTest, tOp, xFld, tVar, tC, rIsN]
  refine ⟨_, rfl, A.o, dx2, _, la, rfl, ho, st_last, trivial, _, rfl, ?_⟩
  rw [lastN hla]
  have nxt : ∀ (H2 : Hp) (A2 : MMA) (m2 : MC), m'.s.last = none → MStep code L m' m2 → MmAt c H2 A2 code.length L m2 → MNx H1 A' A2 → Fr A'.fp H1 H2 → ∃ k', k' < kk ∧ FinInv c code hts s0 L H A m k' [some (.ref A.me), some (.ref A.o)] H2 := by
    intro H2 A2 m2 hl st M2 nx2 f2
    obtain ⟨g2, mu2⟩ := st.good T rm g1
    have th := M1.there
    have F2 : Fr A.fp H H2 := F1.own nx.own f2
    have nx3 : MNx H A A2 := nx.trans F1 th nx2
    obtain ⟨sk3, eA3, _⟩ := nx3
    have ev : A2.vc = A.vc := by rw [eA3]
    exact ⟨mu code m'.s, mk hl, A2, m2, rfl, ⟨M2, by rw [ev]; exact tc.tups F2.tu, T, cl, rm, g2⟩, re.snoc st, nx.trans F1 th nx2, F2, mu2⟩
  cases hl : m'.s.last with
  | none =>
    refine iteT ⟨fun σ' H' => ∃ k', k' < kk ∧ FinInv c code hts s0 L H A m k' σ' H', fun _ _ h => h, ?_⟩
    obtain ⟨rks, hra, vra⟩ := id M1.rdy.dic
    have era : A'.ra = A.ra := by rw [eA]
    rw [era] at hra
    push_cast [ho, st_place, hme1, mm_ready, hra, era]
    cases hrd : m'.ready m'.s.place with
    | none =>
      have hv := (vra m'.s.place).1 hrd
      have hv' : valV rks (Sum.inl ((m'.s.place : Nat) : Int)) = none := hv
      push_cast [hv', Option.isSome_none, mm_plain]
      exact ⟨A', code, hts, s0, L, m', by rw [eme], hrd, ⟨M1, tc1, T, cl, rm, g1⟩, hl, fun H2 A2 m2 st M2 nx2 f2 => nxt H2 A2 m2 hl st M2 nx2 f2⟩
    | some rows =>
      obtain ⟨v, hv, tv⟩ := (vra m'.s.place).2 rows hrd
      have hv' : valV rks (Sum.inl ((m'.s.place : Nat) : Int)) = some v := hv
      push_cast [hv', Option.isSome_some, mm_quick, ho, st_place]
      exact ⟨A', code, hts, s0, L, m', rows, by rw [eme], hrd, ⟨M1, tc1, T, cl, rm, g1⟩, hl, fun H2 A2 m2 st M2 nx2 f2 => nxt H2 A2 m2 hl st M2 nx2 f2⟩
  | some l =>
    refine iteF ?_
    push_cast [ho, st_last]
    exact k la H1 A' m' re (by rw [hl]; simp) ⟨M1, tc1, T, cl, rm, g1⟩ hla nx F1

/-- _law_size -/
def t_L_size (K : PySem.W.Frag) (n : Nat) : TS :=
  (tSeq (tIfS (tTest (tOp (rInT false) (tOp rXT (tVar 0) (tC (.int 0))) (xTup (tCons (tC (.str (wd 0))) (tCons (tC (.str (wd 1))) (tCons (tC (.str (wd 2))) tNil)))))) (tRet (tC (.int 1))) tNext)
    (tRet (tOp (rI0 fun i j => .int (i + j)) (tOp (rI0 fun i j => .int (i + j)) (tCall (sp_L_size n) [] E0 (tCons (tOp rXT (tVar 0) (tC (.int 1))) tNil)) (tCall (sp_L_size n) [] E0 (tCons (tOp rXT (tVar 0) (tC (.int 2))) tNil))) (tC (.int 1)))))

/-- _law_long from 3 -/
def t_L_long_3 (K : PySem.W.Frag) (n : Nat) : TS :=
  (tSeq (tIfS (tTest (tOp rEq (tOp rXT (tVar 0) (tC (.int 0))) (tC (.str (wd 14))))) (tRet (tOp (rI0 fun i j => .int (i + j)) (tOp (rI0 fun i j => .int (i + j)) (tOp (rI0 fun i j => .int (i + j)) (tCall (sp_L_size 8) [] E0 (tCons (tOp rXT (tVar 0) (tC (.int 1))) tNil)) (tCall (sp_L_long n) [] E0 (tCons (tOp rXT (tVar 0) (tC (.int 2))) tNil))) (tCall (sp_L_long n) [] E0 (tCons (tOp rXT (tVar 0) (tC (.int 3))) tNil))) (tC (.int 2)))) tNext)
    (tRet (tOp (rI0 fun i j => .int (i + j)) (tOp (rI0 fun i j => .int (i + j)) (tCall (sp_L_size 8) [] E0 (tCons (tOp rXT (tVar 0) (tC (.int 1))) tNil)) (tCall (sp_L_long n) [] E0 (tCons (tOp rXT (tVar 0) (tC (.int 2))) tNil))) (tC (.int 3)))))

/-- _law_long from 2 -/
def t_L_long_2 (K : PySem.W.Frag) (n : Nat) : TS :=
  tSeq (tIfS (tTest (tOp rEq (tOp rXT (tVar 0) (tC (.int 0))) (tC (.str (wd 8))))) (tRet (tOp (rI0 fun i j => .int (i + j)) (tCall (sp_L_size 8) [] E0 (tCons (tOp rXT (tVar 0) (tC (.int 2))) tNil)) (tC (.int 1)))) tNext) (t_L_long_3 K n)

/-- _law_long from 1 -/
def t_L_long_1 (K : PySem.W.Frag) (n : Nat) : TS :=
  tSeq (tIfS (tTest (tOp rEq (tOp rXT (tVar 0) (tC (.int 0))) (tC (.str (wd 7))))) (tRet (tOp (rI0 fun i j => .int (i + j)) (tCall (sp_L_size 8) [] E0 (tCons (tOp rXT (tVar 0) (tC (.int 1))) tNil)) (tC (.int 1)))) tNext) (t_L_long_2 K n)

/-- _law_long -/
def t_L_long (K : PySem.W.Frag) (n : Nat) : TS :=
  tSeq (tIfS (tTest (tOp rEq (tOp rXT (tVar 0) (tC (.int 0))) (tC (.str (wd 13))))) (tRet (tCB (rSum K) (tCons (tLc (iTup K (tOp rXT (tVar 0) (tC (.int 1)))) (gName 1) tYes (tCall (sp_L_long n) [] E0 (tCons (tVar 1) tNil)) [1]) tNil))) tNext) (t_L_long_1 K n)

/-- _law_valued from 3 -/
def t_L_valued_3 (K : PySem.W.Frag) (n : Nat) : TS :=
  (tSeq (tIfS (tTest (tOp rIsN (tOp rXL (tVar 0) (tC (.int 3))) (tC .non))) (tSeq (tAsg (tCall (sp_L_valued n) [] E0 (tCons (tVar 0) (tCons (tOp rXT (tVar 1) (tC (.int 2))) (tCons (tOp (rI0 fun i j => .int (i + j)) (tVar 2) (tCall (sp_L_size 8) [] E0 (tCons (tOp rXT (tVar 1) (tC (.int 1))) tNil))) tNil)))) (gName 4))
    (tIfS (tTest (tOp rIsN (tOp rXL (tVar 0) (tC (.int 3))) (tC .non))) (tSeq (tAsg (tCall sp_L_worked [] E0 (tCons (tOp rXT (tVar 1) (tC (.int 0))) (tCons (tVar 3) (tCons (tVar 4) tNil)))) (gName 5))
    (tSeq (tIfS (tTest (tOp rIsN (tVar 5) (tC .non))) (tAsg (xTup (tCons (tC (.str (wd 28))) (tCons (tOp (rI0 fun i j => .int (i - j)) (tOp (rI0 fun i j => .int (i + j)) (tVar 2) (tCall (sp_L_size 8) [] E0 (tCons (tVar 1) tNil))) (tC (.int 1))) tNil))) (gSub (tVar 0) (tC (.int 3)) rStL)) tNext)
    (tRet (tVar 5)))) tNext)) tNext)
    (tRet (tC .non)))

/-- _law_valued from 2 -/
def t_L_valued_2 (K : PySem.W.Frag) (n : Nat) : TS :=
  tSeq (tAsg (tCall (sp_L_valued n) [] E0 (tCons (tVar 0) (tCons (tOp rXT (tVar 1) (tC (.int 1))) (tCons (tVar 2) tNil)))) (gName 3)) (t_L_valued_3 K n)

/-- _law_valued from 1 -/
def t_L_valued_1 (K : PySem.W.Frag) (n : Nat) : TS :=
  tSeq (tIfS (tTest (tOp rEq (tOp rXT (tVar 1) (tC (.int 0))) (tC (.str (wd 2))))) (tRet (xGet2S (tOp rXL (tVar 0) (tC (.int 0))) (tOp rXT (tVar 1) (tC (.int 1))) (tC (.int 0)))) tNext) (t_L_valued_2 K n)

/-- _law_valued -/
def t_L_valued (K : PySem.W.Frag) (n : Nat) : TS :=
  tSeq (tIfS (tTest (tOp (rInT false) (tOp rXT (tVar 1) (tC (.int 0))) (xTup (tCons (tC (.str (wd 0))) (tCons (tC (.str (wd 1))) tNil))))) (tRet (tOp rXT (tVar 1) (tC (.int 1)))) tNext) (t_L_valued_1 K n)

theorem tp_leaf {H : Hp} {e : Ex} {v : V} (h : Tp H e.d v) : (∃ i n, e = .num n ∧ v = .ref i ∧ H i = some (.tup [.str (wd 0), .int n])) ∨ (∃ i n, e = .text n ∧ v = .ref i ∧ H i = some (.tup [.str (wd 1), .str n])) ∨
    (∃ i n, e = .name n ∧ v = .ref i ∧ H i = some (.tup [.str (wd 2), .str n])) ∨ ∃ i g a b va vb, e = .op g a b ∧ v = .ref i ∧ H i = some (.tup [.str g.s, va, vb]) ∧ Tp H a.d va ∧ Tp H b.d vb := by
  cases e with
  | num n => obtain ⟨i, e, h⟩ := tp2i h; exact .inl ⟨i, n, rfl, e, h⟩
  | text n => obtain ⟨i, e, h⟩ := tp2s h; exact .inr (.inl ⟨i, n, rfl, e, h⟩)
  | name n => obtain ⟨i, e, h⟩ := tp2s h; exact .inr (.inr (.inl ⟨i, n, rfl, e, h⟩))
  | op g a b =>
    simp only [Ex.d, tp_tup, tpl_cons, tpl_nil, tp_str, tp_int] at h
    obtain ⟨i, xs, rfl, ha, _, r1, rfl, rfl, v1, r2, rfl, t1, v2, r3, rfl, t2, rfl⟩ := h
    exact .inr (.inr (.inr ⟨i, g, a, b, v1, v2, rfl, rfl, ha, t1, t2⟩))
theorem rd_L_size {K : PySem.W.Frag} {n : Nat} {vs : List V} {H : Hp} {Q : VK} {E : XK} (h : sp_L_size (n + 1) vs H Q E) : t_L_size K n { nx := fun _ H' => Q .non H', rt := Q } (start ["_"] vs) H := by
  obtain ⟨v, e, rfl, hv, hd, k⟩ := h
  show t_L_size K n _ [some v] H
  unfold t_L_size; refine st_seq ?_
  rcases tp_leaf hv with ⟨i, m, rfl, rfl, hi⟩ | ⟨i, m, rfl, rfl, hi⟩ | ⟨i, m, rfl, rfl, hi⟩ | ⟨i, g, a, b, va, vb, rfl, rfl, hi, t1, t2⟩
  · push_cast [hi]
    refine ⟨(by simp only [List.length_cons, List.length_nil]; decide), fun p H1 A1 => ?_⟩
    push_cast [A1.at_]
    exact k H1 A1.fr
  · push_cast [hi]
    refine ⟨(by simp only [List.length_cons, List.length_nil]; decide), fun p H1 A1 => ?_⟩
    push_cast [A1.at_]
    exact k H1 A1.fr
  · push_cast [hi]
    refine ⟨(by simp only [List.length_cons, List.length_nil]; decide), fun p H1 A1 => ?_⟩
    push_cast [A1.at_]
    exact k H1 A1.fr
  · simp only [Ex.dep] at hd
    push_cast [hi]
    refine ⟨(by simp only [List.length_cons, List.length_nil]; decide), fun p H1 A1 => ?_⟩
    replace hi := A1.k hi
    push_cast [A1.at_, sg_ne g (i := 0) (by decide), sg_ne g (i := 1) (by decide), sg_ne g (i := 2) (by decide), hi]
    refine ⟨va, a, rfl, t1.tups A1.tu, by omega, fun H2 f2 => ?_⟩
    push_cast [f2.tu _ _ hi]
    refine ⟨vb, b, rfl, (t2.tups A1.tu).tups f2.tu, by omega, fun H3 f3 => ?_⟩
    push_cast
    have e : ((Ex.op g a b).code.length : Int) = (a.code.length : Int) + b.code.length + 1 := by simp [Ex.code]; omega
    have k3 := k H3 ((A1.fr.trans f2).trans f3)
    rw [e] at k3
    exact k3
def LongInv (H : Hp) (l : List Sm) (L : Addr) (i : Nat) (Hc : Hp) : Prop := ∃ ns : List Int, ns.length = i ∧ Hc L = some (.lst (ns.map V.int)) ∧ ns.sum = ((hsL (l.take i)).length : Nat) ∧ Fr [] H Hc
theorem hsL_snoc (l : List Sm) (s : Sm) : hsL (l ++ [s]) = hsL l ++ s.hs := by
  induction l with
  | nil => simp [hsL]
  | cons a r ih => simp [hsL, ih]
theorem rd_L_long {K : PySem.W.Frag} {n : Nat} {vs : List V} {H : Hp} {Q : VK} {E : XK} (h : sp_L_long (n + 1) vs H Q E) (hz : HSz H) : t_L_long K n { nx := fun _ H' => Q .non H', rt := Q } (start ["_", "_"] vs) H := by
  obtain ⟨v, o, rfl, hv, hd, ok, k⟩ := h
  show t_L_long K n _ [some v, none] H
  unfold t_L_long; refine st_seq ?_
  cases o with
  | row l =>
    obtain ⟨a, a2, ys, rfl, ha, ha2, hy⟩ := tp_row hv
    push_cast [ha]
    refine lcT (a := a2) (xs := ys) (fun R h => by push_cast [ha]; exact h) ha2 fun L hL => ?_
    have A0 := Al.of (o := HO.lst []) hL
    refine ⟨LongInv H l L, ⟨[], rfl, A0.at_, by simp [hsL], A0.fr⟩, ?_, ?_, ?_⟩
    · rintro i Hc ⟨ns, _, _, _, f⟩
      exact f.tu _ _ ha2
    · rintro i x Hc hx ⟨ns, e1, h1, h2, f⟩
      obtain ⟨d, hd1, hd2⟩ := hy.get' hx
      obtain ⟨s, hs, rfl⟩ := map_get hd1
      have ms := mem_of_get hs
      have d1 := dpL_mem ms
      simp only [Un.dp] at hd
      show LcTurn _ _ _ _ _ _ _ _ _
      unfold LcTurn
      push_cast [wipe, tYes]
      refine ⟨x, .st s, rfl, hd2.tups f.tu, by simp only [Un.dp]; omega, okL_mem ok ms, fun H2 f2 => ?_⟩
      have h1' := f2.keep _ _ h1 (by simp)
      have M := Mu.of (o := .lst (ns.map V.int ++ [.int (Un.len (.st s))])) h1' fun _ z => by cases z
      have hi : i < l.length := (List.getElem?_eq_some_iff.mp hs).1
      have hyl : ys.length ≤ sizeLine := (hz a2).2.1 _ ha2
      have hil : i < ys.length := (List.getElem?_eq_some_iff.mp hx).1
      refine ⟨ns.map V.int, h1', ?_, ns ++ [((Un.len (.st s) : Nat) : Int)], by simp [e1], by rw [M.at_]; simp, ?_, (f.trans f2).muN M hL⟩
      · rw [List.length_map, e1]; omega
      · rw [List.sum_append, h2, take_snoc hs, hsL_snoc, List.length_append]; simp [Un.len]
    · rintro Hc ⟨ns, e1, h1, h2, f⟩
      rw [hy.length, List.length_map, List.take_length] at h2
      refine ⟨L, ns, rfl, SqL.of h1, ?_⟩
      rw [h2]
      exact k Hc f
  | st s =>
    cases s with
    | say e =>
      obtain ⟨a, ve, rfl, ha, te⟩ := tp_say hv
      push_cast [ha]
      unfold t_L_long_1; refine st_seq ?_
      push_cast [ha]
      refine ⟨ve, e, rfl, te, Nat.le_trans ok.2 (by decide), fun H2 f2 => ?_⟩
      push_cast
      have e : ((Un.len (.st (.say e)) : Nat) : Int) = (e.code.length : Int) + 1 := by simp [Un.len, Sm.hs, Ex.hs_len]
      have k2 := k H2 f2
      rw [e] at k2
      exact k2
    | set x e =>
      obtain ⟨a, ve, rfl, ha, te⟩ := tp_set hv
      push_cast [ha]
      unfold t_L_long_1; refine st_seq ?_
      push_cast [ha]
      unfold t_L_long_2; refine st_seq ?_
      push_cast [ha]
      refine ⟨ve, e, rfl, te, Nat.le_trans ok.2.2 (by decide), fun H2 f2 => ?_⟩
      push_cast
      have e : ((Un.len (.st (.set x e)) : Nat) : Int) = (e.code.length : Int) + 1 := by simp [Un.len, Sm.hs, Ex.hs_len]
      have k2 := k H2 f2
      rw [e] at k2
      exact k2
    | ite e s1 s2 =>
      obtain ⟨a, ve, v1, v2, rfl, ha, te, ts1, ts2⟩ := tp_ite hv
      simp only [Un.dp, Sm.dp] at hd
      push_cast [ha]
      unfold t_L_long_1; refine st_seq ?_
      push_cast [ha]
      unfold t_L_long_2; refine st_seq ?_
      push_cast [ha]
      unfold t_L_long_3; refine st_seq ?_
      push_cast [ha]
      refine ⟨ve, e, rfl, te, Nat.le_trans ok.1.2 (by decide), fun H2 f2 => ?_⟩
      push_cast [f2.tu _ _ ha]
      refine ⟨v1, .row s1, rfl, ts1.tups f2.tu, by simp only [Un.dp]; omega, ok.2.1, fun H3 f3 => ?_⟩
      push_cast [f3.tu _ _ (f2.tu _ _ ha)]
      refine ⟨v2, .row s2, rfl, (ts2.tups f2.tu).tups f3.tu, by simp only [Un.dp]; omega, ok.2.2, fun H4 f4 => ?_⟩
      push_cast
      have e : ((Un.len (.st (.ite e s1 s2)) : Nat) : Int) = (e.code.length : Int) + (Un.len (.row s1) : Nat) + (Un.len (.row s2) : Nat) + 2 := by simp [Un.len, Sm.hs, Ex.hs_len]; omega
      have k2 := k H4 ((f2.trans f3).trans f4)
      rw [e] at k2
      exact k2
    | whl e s1 =>
      obtain ⟨a, ve, v1, rfl, ha, te, ts1⟩ := tp_whl hv
      simp only [Un.dp, Sm.dp] at hd
      push_cast [ha]
      unfold t_L_long_1; refine st_seq ?_
      push_cast [ha]
      unfold t_L_long_2; refine st_seq ?_
      push_cast [ha]
      unfold t_L_long_3; refine st_seq ?_
      push_cast [ha]
      refine ⟨ve, e, rfl, te, Nat.le_trans ok.1.2 (by decide), fun H2 f2 => ?_⟩
      push_cast [f2.tu _ _ ha]
      refine ⟨v1, .row s1, rfl, ts1.tups f2.tu, by simp only [Un.dp]; omega, ok.2, fun H3 f3 => ?_⟩
      push_cast
      have e : ((Un.len (.st (.whl e s1)) : Nat) : Int) = (e.code.length : Int) + (Un.len (.row s1) : Nat) + 3 := by simp [Un.len, Sm.hs, Ex.hs_len]; omega
      have k2 := k H3 (f2.trans f3)
      rw [e] at k2
      exact k2
theorem val_op {m : Nms} {g : Sg} {a b : Ex} {p : Nat} {x y : Vl} (h1 : a.val m p = .inr x) (h2 : b.val m (p + a.code.length) = .inr y) : (Ex.op g a b).val m p = (match wk g x y with
    | some z => .inr z
    | none => .inl (p + a.code.length + b.code.length)) := by
  simp only [Ex.val, h1, h2]
  all_goals (cases wk g x y <;> rfl)
theorem RunAt.mix {H H' H'' : Hp} {r na sd q : Addr} {s : MS} {p : Nat} (R : RunAt H r na sd s) (A : Al H q (.tup [.str (wd 28), .int (p : Nat)]) H') (M : Mu H' r (.lst [.ref na, .int s.left, .ref sd, .ref q]) H'') : RunAt H'' r na sd { s with last := some (.mixed p) } := by
  obtain ⟨la, h1, h2⟩ := R.run
  have hr := A.k h1
  refine ⟨⟨_, M.at_, .tup (M.tu _ _ A.at_) (.cons (.str _) (.cons (.int _) .nil))⟩, M.k (A.k R.nm) (ne_of (A.k R.nm) hr (by simp)), M.k (A.k R.said) R.ne.symm, R.ne⟩
theorem rd_L_valued {K : PySem.W.Frag} {n : Nat} {vs : List V} {H : Hp} {Q : VK} {E : XK} (h : sp_L_valued (n + 1) vs H Q E) : t_L_valued K n { nx := fun _ H' => Q .non H', rt := Q } (start ["_", "_", "_", "_", "_", "_"] vs) H := by
  obtain ⟨r, na, sd, s, v, e, p, rfl, hv, R, hl, hd, hd8, ok, mo, k1, k2⟩ := h
  show t_L_valued K n _ [some (.ref r), some v, some (.int (p : Nat)), none, none, none] H
  unfold t_L_valued; refine st_seq ?_
  rcases tp_leaf hv with ⟨i, m, rfl, rfl, hi⟩ | ⟨i, m, rfl, rfl, hi⟩ | ⟨i, m, rfl, rfl, hi⟩ | ⟨i, g, a, b, va, vb, rfl, rfl, hi, t1, t2⟩
  · push_cast [hi]
    refine ⟨(by simp only [List.length_cons, List.length_nil]; decide), fun q H1 A1 => ?_⟩
    replace hi := A1.k hi
    push_cast [A1.at_, hi]
    exact k1 (.n m) H1 rfl (R.keep A1.fr) A1.fr
  · push_cast [hi]
    refine ⟨(by simp only [List.length_cons, List.length_nil]; decide), fun q H1 A1 => ?_⟩
    replace hi := A1.k hi
    push_cast [A1.at_, hi]
    exact k1 (.t m) H1 rfl (R.keep A1.fr) A1.fr
  · push_cast [hi]
    refine ⟨(by simp only [List.length_cons, List.length_nil]; decide), fun q H1 A1 => ?_⟩
    replace hi := A1.k hi
    have R1 := R.keep A1.fr
    push_cast [A1.at_]
    unfold t_L_valued_1; refine st_seq ?_
    push_cast [hi, R1.go hl, R1.nm, valV_kvs, getD_v]
    exact k1 (ngetD s.names m) H1 rfl R1 A1.fr
  · simp only [Ex.dep] at hd hd8
    have n2 : (g.s = wd 2) = False := by
      have hg : 3 ≤ g.ix := by cases g <;> decide
      rw [sg_eq g _ (show 2 < 42 by decide)]
      simp only [eq_iff_iff, iff_false]
      omega
    push_cast [hi]
    refine ⟨(by simp only [List.length_cons, List.length_nil]; decide), fun q H1 A1 => ?_⟩
    replace hi := A1.k hi
    replace t1 := t1.tups A1.tu; replace t2 := t2.tups A1.tu
    push_cast [A1.at_, sg_ne g (i := 0) (by decide), sg_ne g (i := 1) (by decide)]
    have R1 := R.keep A1.fr
    unfold t_L_valued_1; refine st_seq ?_
    push_cast [hi, n2]
    unfold t_L_valued_2; refine st_seq ?_
    push_cast [hi]
    refine ⟨r, na, sd, s, va, a, p, rfl, t1, R1, hl, by omega, by omega, ok.1, mo, fun x H2 ex R2 f2 => ?_, fun q' H2 ex R2 f2 => ?_⟩
    · replace hi := f2.tu _ _ hi
      replace t1 := t1.tups f2.tu; replace t2 := t2.tups f2.tu
      unfold t_L_valued_3; refine st_seq ?_
      push_cast [R2.go hl]
      refine st_seq ?_
      push_cast [hi]
      refine ⟨va, a, rfl, t1, Nat.le_trans (by omega) hd8, fun H3 f3 => ?_⟩
      replace hi := f3.tu _ _ hi
      replace t1 := t1.tups f3.tu; replace t2 := t2.tups f3.tu
      have R3 := R2.keep f3
      push_cast [hi]
      refine ⟨r, na, sd, s, vb, b, p + a.code.length, by rw [Int.natCast_add], t2, R3, hl, by omega, by omega, ok.2, mo, fun y H4 ey R4 f4 => ?_, fun q' H4 ey R4 f4 => ?_⟩
      · replace hi := f4.tu _ _ hi
        replace t1 := t1.tups f4.tu; replace t2 := t2.tups f4.tu
        have hv4 : Tp H4 (Ex.op g a b).d (.ref i) := .tup hi (.cons (.str _) (.cons t1 (.cons t2 .nil)))
        have F4 : Fr [] H H4 := ((A1.fr.trans f2).trans f3).trans f4
        have evo := val_op (g := g) ex ey
        push_cast [R4.go hl]
        refine st_seq ?_
        push_cast [hi]
        refine ⟨g, x, y, rfl, Ex.val_ok mo a p x ok.1 ex, Ex.val_ok mo b _ y ok.2 ey, fun H5 f5 => ?_⟩
        have R5 := R4.keep f5
        replace hv4 := hv4.tups f5.tu
        refine st_seq ?_
        cases ew : wk g x y with
        | some z =>
          rw [ew] at evo
          have nz : (z.v = V.non) = False := by cases z <;> simp [Vl.v]
          push_cast [ov, nz]
          exact k1 z H5 evo R5 (F4.trans f5)
        | none =>
          rw [ew] at evo
          push_cast [ov]
          refine ⟨.ref i, .op g a b, rfl, hv4, by simp only [Ex.dep]; omega, fun H6 f6 => ?_⟩
          have R6 := R5.keep f6
          push_cast
          refine ⟨(by simp only [List.length_cons, List.length_nil]; decide), fun q7 H7 A7 => ?_⟩
          push_cast [A7.k (R6.go hl)]
          intro H8 M8
          have e : (p : Int) + ((Ex.op g a b).code.length : Nat) - 1 = ((p + a.code.length + b.code.length : Nat) : Int) := by simp [Ex.code]; omega
          rw [e] at A7
          exact k2 _ H8 evo (R6.mix A7 M8) (((((F4.trans f5).trans f6).sub0).al A7).mu M8 (by simp))
      · obtain ⟨la, hr4, hla⟩ := R4.run
        have nl : (la = V.non) = False := by
          simp only [lastD, Ls.d, tp_tup] at hla
          obtain ⟨_, _, rfl, _⟩ := hla
          simp
        push_cast [hr4, nl]
        exact k2 q' H4 (by simp only [Ex.val, ex, ey]) R4 ((((A1.fr.trans f2).trans f3).sub0).trans f4)
    · obtain ⟨la, hr4, hla⟩ := R2.run
      have nl : (la = V.non) = False := by
        simp only [lastD, Ls.d, tp_tup] at hla
        obtain ⟨_, _, rfl, _⟩ := hla
        simp
      unfold t_L_valued_3; refine st_seq ?_
      push_cast [hr4, nl]
      exact k2 q' H2 (by simp only [Ex.val, ex]) R2 ((A1.fr.sub0).trans f2)

/-- Coder.__init__ -/
def t_Coder___init__ (K : PySem.W.Frag) (c : CA) : TS :=
  (xSet c.coder (tVar 0) (xLst tNil) ("made" : Str))

/-- Coder.put -/
def t_Coder_put (K : PySem.W.Frag) (c : CA) : TS :=
  (tSeq (tDrop (tApp (xFld c.coder (tVar 0) ("made" : Str)) (tVar 1)))
    (tRet (tOp (rI0 fun i j => .int (i - j)) (tCB rLenL (tCons (xFld c.coder (tVar 0) ("made" : Str)) tNil)) (tC (.int 1)))))

/-- Coder.part -/
def t_Coder_part (K : PySem.W.Frag) (c : CA) (n : Nat) : TS :=
  (tIfS (tTest (tOp (rInT false) (tOp rXT (tVar 1) (tC (.int 0))) (xTup (tCons (tC (.str (wd 0))) (tCons (tC (.str (wd 1))) (tCons (tC (.str (wd 2))) tNil)))))) (tDrop (xMeth c.coder ("put" : Str) (sp_Coder_put c) (tVar 0) (tCons (tVar 1) tNil))) (tSeq (tDrop (xMeth c.coder ("part" : Str) (sp_Coder_part c n) (tVar 0) (tCons (tOp rXT (tVar 1) (tC (.int 1))) tNil)))
    (tSeq (tDrop (xMeth c.coder ("part" : Str) (sp_Coder_part c n) (tVar 0) (tCons (tOp rXT (tVar 1) (tC (.int 2))) tNil)))
    (tDrop (xMeth c.coder ("put" : Str) (sp_Coder_put c) (tVar 0) (tCons (xTup (tCons (tOp rXT (tVar 1) (tC (.int 0))) tNil)) tNil))))))

/-- Coder.lay -/
def t_Coder_lay (K : PySem.W.Frag) (c : CA) (n : Nat) : TS :=
  (tSeq (tAsg (tOp rXT (tVar 1) (tC (.int 0))) (gName 2))
    (tIfS (tTest (tOp rEq (tVar 2) (tC (.str (wd 13))))) (tFor (iTup K (tOp rXT (tVar 1) (tC (.int 1)))) (gName 3)
    (tDrop (xMeth c.coder ("lay" : Str) (sp_Coder_lay c n) (tVar 0) (tCons (tVar 3) tNil)))) (tIfS (tTest (tOp rEq (tVar 2) (tC (.str (wd 7))))) (tSeq (tDrop (xMeth c.coder ("part" : Str) (sp_Coder_part c 7) (tVar 0) (tCons (tOp rXT (tVar 1) (tC (.int 1))) tNil)))
    (tDrop (xMeth c.coder ("put" : Str) (sp_Coder_put c) (tVar 0) (tCons (xTup (tCons (tC (.str (wd 7))) tNil)) tNil)))) (tIfS (tTest (tOp rEq (tVar 2) (tC (.str (wd 8))))) (tSeq (tDrop (xMeth c.coder ("part" : Str) (sp_Coder_part c 7) (tVar 0) (tCons (tOp rXT (tVar 1) (tC (.int 2))) tNil)))
    (tDrop (xMeth c.coder ("put" : Str) (sp_Coder_put c) (tVar 0) (tCons (xTup (tCons (tC (.str (wd 8))) (tCons (tOp rXT (tVar 1) (tC (.int 1))) tNil))) tNil)))) (tIfS (tTest (tOp rEq (tVar 2) (tC (.str (wd 14))))) (tDrop (xMeth c.coder ("choice" : Str) (sp_Coder_choice c n) (tVar 0) (tCons (tVar 1) tNil))) (tDrop (xMeth c.coder ("loop" : Str) (sp_Coder_loop c n) (tVar 0) (tCons (tVar 1) tNil))))))))

/-- Coder.choice from 5 -/
def t_Coder_choice_5 (K : PySem.W.Frag) (c : CA) (n : Nat) : TS :=
  (tSeq (tDrop (xMeth c.coder ("lay" : Str) (sp_Coder_lay c n) (tVar 0) (tCons (tOp rXT (tVar 1) (tC (.int 3))) tNil)))
    (tAsg (xTup (tCons (tC (.str (wd 10))) (tCons (tCB rLenL (tCons (xFld c.coder (tVar 0) ("made" : Str)) tNil)) tNil))) (gSub (xFld c.coder (tVar 0) ("made" : Str)) (tVar 3) rStL)))

/-- Coder.choice from 4 -/
def t_Coder_choice_4 (K : PySem.W.Frag) (c : CA) (n : Nat) : TS :=
  tSeq (tAsg (xTup (tCons (tC (.str (wd 9))) (tCons (tCB rLenL (tCons (xFld c.coder (tVar 0) ("made" : Str)) tNil)) tNil))) (gSub (xFld c.coder (tVar 0) ("made" : Str)) (tVar 2) rStL)) (t_Coder_choice_5 K c n)

/-- Coder.choice from 3 -/
def t_Coder_choice_3 (K : PySem.W.Frag) (c : CA) (n : Nat) : TS :=
  tSeq (tAsg (xMeth c.coder ("put" : Str) (sp_Coder_put c) (tVar 0) (tCons (xTup (tCons (tC (.str (wd 10))) (tCons (tC (.int 0)) tNil))) tNil)) (gName 3)) (t_Coder_choice_4 K c n)

/-- Coder.choice from 2 -/
def t_Coder_choice_2 (K : PySem.W.Frag) (c : CA) (n : Nat) : TS :=
  tSeq (tDrop (xMeth c.coder ("lay" : Str) (sp_Coder_lay c n) (tVar 0) (tCons (tOp rXT (tVar 1) (tC (.int 2))) tNil))) (t_Coder_choice_3 K c n)

/-- Coder.choice from 1 -/
def t_Coder_choice_1 (K : PySem.W.Frag) (c : CA) (n : Nat) : TS :=
  tSeq (tAsg (xMeth c.coder ("put" : Str) (sp_Coder_put c) (tVar 0) (tCons (xTup (tCons (tC (.str (wd 9))) (tCons (tC (.int 0)) tNil))) tNil)) (gName 2)) (t_Coder_choice_2 K c n)

/-- Coder.choice -/
def t_Coder_choice (K : PySem.W.Frag) (c : CA) (n : Nat) : TS :=
  tSeq (tDrop (xMeth c.coder ("part" : Str) (sp_Coder_part c 7) (tVar 0) (tCons (tOp rXT (tVar 1) (tC (.int 1))) tNil))) (t_Coder_choice_1 K c n)

/-- Coder.loop from 4 -/
def t_Coder_loop_4 (K : PySem.W.Frag) (c : CA) (n : Nat) : TS :=
  (tSeq (tDrop (xMeth c.coder ("put" : Str) (sp_Coder_put c) (tVar 0) (tCons (xTup (tCons (tC (.str (wd 10))) (tCons (tVar 2) tNil))) tNil)))
    (tAsg (xTup (tCons (tC (.str (wd 9))) (tCons (tCB rLenL (tCons (xFld c.coder (tVar 0) ("made" : Str)) tNil)) tNil))) (gSub (xFld c.coder (tVar 0) ("made" : Str)) (tVar 3) rStL)))

/-- Coder.loop from 3 -/
def t_Coder_loop_3 (K : PySem.W.Frag) (c : CA) (n : Nat) : TS :=
  tSeq (tDrop (xMeth c.coder ("lay" : Str) (sp_Coder_lay c n) (tVar 0) (tCons (tOp rXT (tVar 1) (tC (.int 2))) tNil))) (t_Coder_loop_4 K c n)

/-- Coder.loop from 2 -/
def t_Coder_loop_2 (K : PySem.W.Frag) (c : CA) (n : Nat) : TS :=
  tSeq (tAsg (xMeth c.coder ("put" : Str) (sp_Coder_put c) (tVar 0) (tCons (xTup (tCons (tC (.str (wd 9))) (tCons (tC (.int 0)) tNil))) tNil)) (gName 3)) (t_Coder_loop_3 K c n)

/-- Coder.loop from 1 -/
def t_Coder_loop_1 (K : PySem.W.Frag) (c : CA) (n : Nat) : TS :=
  tSeq (tDrop (xMeth c.coder ("part" : Str) (sp_Coder_part c 7) (tVar 0) (tCons (tOp rXT (tVar 1) (tC (.int 1))) tNil))) (t_Coder_loop_2 K c n)

/-- Coder.loop -/
def t_Coder_loop (K : PySem.W.Frag) (c : CA) (n : Nat) : TS :=
  tSeq (tAsg (xMeth c.coder ("put" : Str) (sp_Coder_put c) (tVar 0) (tCons (xTup (tCons (tC (.str (wd 11))) tNil)) tNil)) (gName 2)) (t_Coder_loop_1 K c n)

/-- coded from 2 -/
def t_coded_2 (K : PySem.W.Frag) (c : CA) : TS :=
  (tSeq (tDrop (xMeth c.coder ("put" : Str) (sp_Coder_put c) (tVar 1) (tCons (xTup (tCons (tC (.str (wd 12))) tNil)) tNil)))
    (tRet (tCB rTupL (tCons (xFld c.coder (tVar 1) ("made" : Str)) tNil))))

/-- coded from 1 -/
def t_coded_1 (K : PySem.W.Frag) (c : CA) : TS :=
  tSeq (tDrop (xMeth c.coder ("lay" : Str) (sp_Coder_lay c 30) (tVar 1) (tCons (tVar 0) tNil))) (t_coded_2 K c)

/-- coded -/
def t_coded (K : PySem.W.Frag) (c : CA) : TS :=
  tSeq (tAsg (xMake c.coder (sp_Coder___init__ c) tNil) (gName 1)) (t_coded_1 K c)

section
variable {v : V}
theorem lk_made : List.lookup ("made" : Str) [(("made" : Str), v)] = some v := rfl
theorem lk_m_put : List.lookup ("put" : Str) [(("made" : Str), v)] = none := rfl
theorem lk_m_part : List.lookup ("part" : Str) [(("made" : Str), v)] = none := rfl
theorem lk_m_lay : List.lookup ("lay" : Str) [(("made" : Str), v)] = none := rfl
theorem lk_m_choice : List.lookup ("choice" : Str) [(("made" : Str), v)] = none := rfl
theorem lk_m_loop : List.lookup ("loop" : Str) [(("made" : Str), v)] = none := rfl
end
theorem rd_Coder___init__ {K : PySem.W.Frag} {c : CA} {vs : List V} {H : Hp} {Q : VK} {E : XK} (h : sp_Coder___init__ c vs H Q E) : t_Coder___init__ K c { nx := fun _ H' => Q .non H', rt := Q } (start ["_"] vs) H := by
  obtain ⟨o, dx, rfl, ho, k⟩ := h
  show t_Coder___init__ K c _ [some (.ref o)] H
  unfold t_Coder___init__
  push_cast
  refine ⟨(by simp only [List.length_cons, List.length_nil]; decide), fun p H1 A1 => ?_⟩
  push_cast [A1.k ho]
  refine ⟨by decide, fun H2 M2 => ?_⟩
  refine k p H2 A1.new ⟨⟨_, M2.at_⟩, M2.k A1.at_ ?_⟩ ((A1.fr).mu M2 (by simp))
  exact fun e => ne_of_none ho A1.new e.symm
theorem rd_Coder_put {K : PySem.W.Frag} {c : CA} {vs : List V} {H : Hp} {Q : VK} {E : XK} (h : sp_Coder_put c vs H Q E) : t_Coder_put K c { nx := fun _ H' => Q .non H', rt := Q } (start ["_", "_"] vs) H := by
  obtain ⟨o, m, v, xs, rfl, ⟨⟨dx, ho⟩, hm⟩, hl, k⟩ := h
  show t_Coder_put K c _ [some (.ref o), some v] H
  unfold t_Coder_put; refine st_seq ?_
  push_cast [ho, lk_made, hm]
  refine ⟨bigL (by omega), fun H2 M2 => ?_⟩
  have ne : o ≠ m := ne_of ho hm (by simp)
  push_cast [M2.k ho ne, lk_made, M2.at_]
  have e : ((xs ++ [v]).length : Int) - 1 = xs.length := by simp
  rw [e]
  exact k _ ⟨⟨dx, M2.k ho ne⟩, M2.at_⟩ (M2.fr (by simp))
theorem CoderAt.new {c : CA} {H H' : Hp} {o m : Addr} {xs : List V} {S : List Addr} (h : CoderAt c H o m xs) (f : Fr S H H') (ho : o ∉ S) (hm : m ∉ S) : CoderAt c H' o m xs := by
  obtain ⟨⟨dx, h1⟩, h2⟩ := h
  exact ⟨⟨dx, f.keep _ _ h1 ho⟩, f.keep _ _ h2 hm⟩
theorem rd_Coder_part {K : PySem.W.Frag} {c : CA} {n : Nat} {vs : List V} {H : Hp} {Q : VK} {E : XK} (h : sp_Coder_part c (n + 1) vs H Q E) : t_Coder_part K c n { nx := fun _ H' => Q .non H', rt := Q } (start ["_", "_"] vs) H := by
  obtain ⟨o, m, v, xs, rs, e, rfl, ⟨⟨dx, ho⟩, hm⟩, hx, hv, hd, hl, k⟩ := h
  show t_Coder_part K c n _ [some (.ref o), some v] H
  unfold t_Coder_part
  have L : xs.length = rs.length := by rw [hx.length, List.length_map]
  have leaf : ∀ (a : Addr) (i : Nat) (y : V) (rw_ : Rw), i < 3 → e.code = [rw_] → v = .ref a → H a = some (.tup [.str (wd i), y]) → Tp H rw_.d v → tIfS (tTest (tOp (rInT false) (tOp rXT (tVar 1) (tC (.int 0))) (xTup (tCons (tC (.str (wd 0))) (tCons (tC (.str (wd 1))) (tCons (tC (.str (wd 2))) tNil)))))) (tDrop (xMeth c.coder ("put" : Str) (sp_Coder_put c) (tVar 0) (tCons (tVar 1) tNil))) (tSeq (tDrop (xMeth c.coder ("part" : Str) (sp_Coder_part c n) (tVar 0) (tCons (tOp rXT (tVar 1) (tC (.int 1))) tNil)))
    (tSeq (tDrop (xMeth c.coder ("part" : Str) (sp_Coder_part c n) (tVar 0) (tCons (tOp rXT (tVar 1) (tC (.int 2))) tNil)))
    (tDrop (xMeth c.coder ("put" : Str) (sp_Coder_put c) (tVar 0) (tCons (xTup (tCons (tOp rXT (tVar 1) (tC (.int 0))) tNil)) tNil))))) { nx := fun _ H' => Q .non H', rt := Q } [some (.ref o), some v] H := by
    intro a i y rw_ hi ec ev ha tv
    subst ev
    have hin : inV (.str (wd i)) [V.str (wd 0), V.str (wd 1), V.str (wd 2)] = true := by
      have hi : i = 0 ∨ i = 1 ∨ i = 2 := by omega
      rcases hi with rfl | rfl | rfl <;> simp [inV_cons, eqV_str]
    simp only [tIfS, tTest, tOp, tVar, tC, rXT, xTup, tCons, tNil, rInT]
    refine ⟨_, rfl, a, _, 0, _, rfl, rfl, ha, atI0 _ _, (by simp only [List.length_cons, List.length_nil]; decide), fun p H1 A1 => ⟨p, _, rfl, A1.at_, rfl, rfl, _, rfl, ?_⟩⟩
    simp only [Bool.false_eq_true, if_false]
    rw [hin]
    refine iteT ?_
    push_cast [A1.k ho, lk_m_put]
    refine ⟨o, m, _, xs, rfl, ⟨⟨dx, A1.k ho⟩, A1.k hm⟩, by omega, fun H2 C2 f2 => ?_⟩
    refine k _ _ C2 ?_ (A1.fr.trans f2)
    rw [ec, List.map_append]
    exact TpL.append ((hx.tups A1.tu).tups f2.tu) (.cons ((tv.tups A1.tu).tups f2.tu) .nil)
  cases e with
  | num i =>
    have hv0 := hv
    simp only [Ex.d, tp_tup, tpl_cons, tpl_nil, tp_str, tp_int] at hv
    obtain ⟨a, ys, rfl, ha, _, r1, rfl, rfl, _, r2, rfl, rfl, rfl⟩ := hv
    exact leaf a 0 _ (.num i) (by decide) rfl rfl ha hv0
  | text i =>
    have hv0 := hv
    simp only [Ex.d, tp_tup, tpl_cons, tpl_nil, tp_str, tp_int] at hv
    obtain ⟨a, ys, rfl, ha, _, r1, rfl, rfl, _, r2, rfl, rfl, rfl⟩ := hv
    exact leaf a 1 _ (.text i) (by decide) rfl rfl ha hv0
  | name i =>
    have hv0 := hv
    simp only [Ex.d, tp_tup, tpl_cons, tpl_nil, tp_str, tp_int] at hv
    obtain ⟨a, ys, rfl, ha, _, r1, rfl, rfl, _, r2, rfl, rfl, rfl⟩ := hv
    exact leaf a 2 _ (.name i) (by decide) rfl rfl ha hv0
  | op s e1 e2 =>
    simp only [Ex.d, tp_tup, tpl_cons, tpl_nil, tp_str, tp_int] at hv
    obtain ⟨a, ys, rfl, ha, _, r1, rfl, rfl, v1, r2, rfl, t1, v2, r3, rfl, t2, rfl⟩ := hv
    simp only [Ex.dep] at hd
    simp only [Ex.code, List.length_append, List.length_cons, List.length_nil] at hl
    push_cast [ha]
    refine ⟨(by simp only [List.length_cons, List.length_nil]; decide), fun p H1 A1 => ?_⟩
    push_cast [A1.at_, sg_ne s (i := 0) (by decide), sg_ne s (i := 1) (by decide), sg_ne s (i := 2) (by decide)]
    refine st_seq ?_
    push_cast [A1.k ha, A1.k ho, lk_m_part]
    refine ⟨o, m, v1, xs, rs, e1, rfl, ⟨⟨dx, A1.k ho⟩, A1.k hm⟩, hx.tups A1.tu, t1.tups A1.tu, by omega, by omega, fun xs2 H2 C2 X2 f2 => ?_⟩
    have ha2 := f2.tu _ _ (A1.k ha)
    obtain ⟨⟨dx2, ho2⟩, hm2⟩ := C2
    refine st_seq ?_
    push_cast [ha2, ho2, lk_m_part]
    refine ⟨o, m, v2, xs2, rs ++ e1.code, e2, rfl, ⟨⟨dx2, ho2⟩, hm2⟩, X2, (t2.tups A1.tu).tups f2.tu, by omega, by simp only [List.length_append]; omega, fun xs3 H3 C3 X3 f3 => ?_⟩
    obtain ⟨⟨dx3, ho3⟩, hm3⟩ := C3
    push_cast [f3.tu _ _ ha2, ho3, lk_m_put]
    refine ⟨(by simp only [List.length_cons, List.length_nil]; decide), fun q H4 A4 => ?_⟩
    refine ⟨o, m, _, xs3, rfl, ⟨⟨dx3, A4.k ho3⟩, A4.k hm3⟩, by rw [X3.length, List.length_map]; simp only [List.length_append]; omega, fun H5 C5 f5 => ?_⟩
    refine k _ _ C5 ?_ ((((A1.fr.trans f2).trans f3).al A4).trans f5)
    simp only [Ex.code]
    rw [← List.append_assoc, ← List.append_assoc, List.map_append]
    exact TpL.append ((X3.tups A4.tu).tups f5.tu) (.cons (.tup (f5.tu _ _ A4.at_) (.cons (.str _) .nil)) .nil)
theorem len35 {u : Un} {b : Nat} (h : u.ok 5) : (u.code b).length ≤ 35 * u.cnt := u.len_le b h
theorem len35L {l : List Sm} {b : Nat} (h : okL 5 l) : (codeL l b).length ≤ 35 * cntL l := len_leL l b h
theorem Ex.len32 {e : Ex} (h : e.dep ≤ 5) : e.code.length ≤ 32 := Ex.lenM h
def LayInv (c : CA) (o m : Addr) (l : List Sm) (rs : List Rw) (H : Hp) (v0 w : V) (i : Nat) (σ : L2.St) (H' : Hp) : Prop := ∃ (xs : List V) (σ3 : Option V), σ = [some (.ref o), some v0, some w, σ3] ∧
  CoderAt c H' o m xs ∧ TpL H' ((rs ++ codeL (l.take i) rs.length).map Rw.d) xs ∧ Fr [m] H H'
theorem take_cnt {l : List Sm} {i : Nat} {s : Sm} (h : l[i]? = some s) : cntL (l.take i) + s.cnt ≤ cntL l := by
  have h1 := cntL_take l (i + 1)
  rw [take_snoc h, cntL_snoc] at h1
  exact h1
theorem rd_Coder_lay {K : PySem.W.Frag} {c : CA} {n : Nat} {vs : List V} {H : Hp} {Q : VK} {E : XK} (h : sp_Coder_lay c (n + 1) vs H Q E) : t_Coder_lay K c n { nx := fun _ H' => Q .non H', rt := Q } (start ["_", "_", "_", "_"] vs) H := by
  obtain ⟨o, m, v, xs, rs, u, rfl, C0, hx, hv, _, hd, ok, hl, k⟩ := h
  show t_Coder_lay K c n _ [some (.ref o), some v, none, none] H
  unfold t_Coder_lay; refine st_seq ?_
  obtain ⟨⟨dx, ho⟩, hm⟩ := C0
  have L : xs.length = rs.length := by rw [hx.length, List.length_map]
  cases u with
  | row l =>
    obtain ⟨a, a2, ys, rfl, ha, ha2, hy⟩ := tp_row hv
    push_cast [ha]
    refine forT (a := a2) (xs := ys) (fun R h => by push_cast [ha]; exact h) ha2 (LayInv c o m l rs H (.ref a) (.str (wd 13))) ⟨xs, none, rfl, ⟨⟨dx, ho⟩, hm⟩, by simp only [List.take_zero, codeL, List.append_nil]; exact hx, .refl _ _⟩ ?_ ?_ ?_
    · rintro i σ' H' ⟨xs', σ3, rfl, C1, X1, f⟩
      exact f.tu _ _ ha2
    · rintro i x σ' H' hx' ⟨xs', σ3, rfl, ⟨⟨dx1, ho1⟩, hm1⟩, X1, f⟩
      obtain ⟨d, hd1, hd2⟩ := hy.get' hx'
      obtain ⟨s, hs, rfl⟩ := map_get hd1
      have ms := mem_of_get hs
      have d1 := dpL_mem ms
      have c1 := take_cnt hs
      simp only [Un.dp] at hd
      simp only [Un.cnt] at hl
      show tDrop _ _ [some (.ref o), some (.ref a), some (.str (wd 13)), some x] H'
      push_cast [ho1, lk_m_lay]
      have lb := len35L (b := rs.length) (okL_take l i ok)
      refine ⟨o, m, x, xs', rs ++ codeL (l.take i) rs.length, .st s, rfl, ⟨⟨dx1, ho1⟩, hm1⟩, X1, hd2.tups f.tu, trivial, by simp only [Un.dp]; omega, okL_mem ok ms, by simp only [Un.cnt, List.length_append]; omega, fun xs2 H2 C2 X2 f2 => ?_⟩
      refine ⟨xs2, _, rfl, C2, ?_, f.trans f2⟩
      rw [take_snoc hs, codeL_snoc, ← List.append_assoc]
      simpa only [Un.code, List.length_append] using X2
    · rintro σ' H' ⟨xs', σ3, rfl, C1, X1, f⟩
      rw [hy.length, List.length_map, List.take_length] at X1
      exact k _ _ C1 X1 f
  | st s =>
    simp only [Un.dp] at hd
    cases s with
    | say e =>
      obtain ⟨a, ve, rfl, ha, te⟩ := tp_say hv
      have le := Ex.len32 ok.2
      simp only [Un.cnt, Sm.cnt] at hl
      push_cast [ha]
      refine st_seq ?_
      push_cast [ha, ho, lk_m_part]
      refine ⟨o, m, ve, xs, rs, e, rfl, ⟨⟨dx, ho⟩, hm⟩, hx, te, Nat.le_trans ok.2 (by decide), by omega, fun xs2 H2 C2 X2 f2 => ?_⟩
      obtain ⟨⟨dx2, ho2⟩, hm2⟩ := C2
      push_cast [ho2, lk_m_put]
      refine ⟨(by simp only [List.length_cons, List.length_nil]; decide), fun q H3 A3 => ?_⟩
      refine ⟨o, m, _, xs2, rfl, ⟨⟨dx2, A3.k ho2⟩, A3.k hm2⟩, by rw [X2.length, List.length_map]; simp only [List.length_append]; omega, fun H4 C4 f4 => ?_⟩
      refine k _ _ C4 ?_ ((f2.al A3).trans f4)
      simp only [Un.code, Sm.code]
      rw [← List.append_assoc, List.map_append]
      exact TpL.append ((X2.tups A3.tu).tups f4.tu) (.cons (.tup (f4.tu _ _ A3.at_) (.cons (.str _) .nil)) .nil)
    | set x e =>
      obtain ⟨a, ve, rfl, ha, te⟩ := tp_set hv
      have le := Ex.len32 ok.2.2
      simp only [Un.cnt, Sm.cnt] at hl
      push_cast [ha]
      refine st_seq ?_
      push_cast [ha, ho, lk_m_part]
      refine ⟨o, m, ve, xs, rs, e, rfl, ⟨⟨dx, ho⟩, hm⟩, hx, te, Nat.le_trans ok.2.2 (by decide), by omega, fun xs2 H2 C2 X2 f2 => ?_⟩
      obtain ⟨⟨dx2, ho2⟩, hm2⟩ := C2
      push_cast [ho2, lk_m_put, f2.tu _ _ ha]
      refine ⟨(by simp only [List.length_cons, List.length_nil]; decide), fun q H3 A3 => ?_⟩
      refine ⟨o, m, _, xs2, rfl, ⟨⟨dx2, A3.k ho2⟩, A3.k hm2⟩, by rw [X2.length, List.length_map]; simp only [List.length_append]; omega, fun H4 C4 f4 => ?_⟩
      refine k _ _ C4 ?_ ((f2.al A3).trans f4)
      simp only [Un.code, Sm.code]
      rw [← List.append_assoc, List.map_append]
      exact TpL.append ((X2.tups A3.tu).tups f4.tu) (.cons (.tup (f4.tu _ _ A3.at_) (.cons (.str _) (.cons (.str _) .nil))) .nil)
    | ite e s t =>
      have hv0 := hv
      obtain ⟨a, ve, v1, v2, rfl, ha, te, ts1, ts2⟩ := tp_ite hv
      push_cast [ha, ho, lk_m_choice]
      exact ⟨o, m, _, xs, rs, _, rfl, ⟨⟨dx, ho⟩, hm⟩, hx, hv0, trivial, by simp only [Un.dp]; omega, ok, hl, k⟩
    | whl e s =>
      have hv0 := hv
      obtain ⟨a, ve, v1, rfl, ha, te, ts1⟩ := tp_whl hv
      push_cast [ha, ho, lk_m_loop]
      exact ⟨o, m, _, xs, rs, _, rfl, ⟨⟨dx, ho⟩, hm⟩, hx, hv0, trivial, by simp only [Un.dp]; omega, ok, hl, k⟩
theorem set_mid {α : Type} (A B : List α) (x y : α) : (A ++ [x] ++ B).set A.length y = A ++ [y] ++ B := by
  rw [List.append_assoc, List.set_append_right _ _ (Nat.le_refl _), Nat.sub_self]
  simp
theorem ixN_len {n j : Nat} (h : j < n) {i : Int} (e : i = j) : ixN n i = some j := by subst e; exact ixN_n h
theorem rd_Coder_loop {K : PySem.W.Frag} {c : CA} {n : Nat} {vs : List V} {H : Hp} {Q : VK} {E : XK} (h : sp_Coder_loop c (n + 1) vs H Q E) : t_Coder_loop K c n { nx := fun _ H' => Q .non H', rt := Q } (start ["_", "_", "_", "_"] vs) H := by
  obtain ⟨o, m, v, xs, rs, u, rfl, C0, hx, hv, gu, hd, ok, hl, k⟩ := h
  show t_Coder_loop K c n _ [some (.ref o), some v, none, none] H
  obtain ⟨⟨dx, ho⟩, hm⟩ := C0
  have L : xs.length = rs.length := by rw [hx.length, List.length_map]
  obtain ⟨e, s, rfl⟩ : ∃ e s, u = .st (.whl e s) := by
    cases u with
    | row l => exact gu.elim
    | st s => cases s <;> first | exact gu.elim | exact ⟨_, _, rfl⟩
  obtain ⟨a, ve, v1, rfl, ha, te, ts⟩ := tp_whl hv
  have le := Ex.len32 ok.1.2
  have ls : ∀ b, (codeL s b).length ≤ 35 * cntL s := fun b => len35L ok.2
  simp only [Un.dp, Sm.dp] at hd
  simp only [Un.cnt, Sm.cnt] at hl
  unfold t_Coder_loop; refine st_seq ?_
  push_cast [ho, lk_m_put]
  refine ⟨(by simp only [List.length_cons, List.length_nil]; decide), fun q H1 A1 => ?_⟩
  refine ⟨o, m, _, xs, rfl, ⟨⟨dx, A1.k ho⟩, A1.k hm⟩, by omega, fun H2 C2 f2 => ?_⟩
  have X2 : TpL H2 ((rs ++ [Rw.top]).map Rw.d) (xs ++ [.ref q]) := by
    rw [List.map_append]
    exact TpL.append ((hx.tups A1.tu).tups f2.tu) (.cons (.tup (f2.tu _ _ A1.at_) (.cons (.str _) .nil)) .nil)
  have T2 : Tups H H2 := A1.tu.trans f2.tu
  have F2 : Fr [m] H H2 := A1.fr.trans f2
  obtain ⟨⟨dx2, ho2⟩, hm2⟩ := C2
  unfold t_Coder_loop_1; refine st_seq ?_
  push_cast [ho2, lk_m_part, T2 _ _ ha]
  refine ⟨o, m, ve, _, _, e, rfl, ⟨⟨dx2, ho2⟩, hm2⟩, X2, te.tups T2, Nat.le_trans ok.1.2 (by decide), by simp only [List.length_append, List.length_cons, List.length_nil]; omega, fun xs3 H3 C3 X3 f3 => ?_⟩
  have T3 : Tups H H3 := T2.trans f3.tu
  obtain ⟨⟨dx3, ho3⟩, hm3⟩ := C3
  have L3 : xs3.length = rs.length + 1 + e.code.length := by rw [X3.length, List.length_map]; simp only [List.length_append, List.length_cons, List.length_nil]
  unfold t_Coder_loop_2; refine st_seq ?_
  push_cast [ho3, lk_m_put]
  refine ⟨(by simp only [List.length_cons, List.length_nil]; decide), fun q4 H4 A4 => ?_⟩
  refine ⟨o, m, _, xs3, rfl, ⟨⟨dx3, A4.k ho3⟩, A4.k hm3⟩, by omega, fun H5 C5 f5 => ?_⟩
  have X5 : TpL H5 ((rs ++ [Rw.top] ++ e.code ++ [Rw.unless 0]).map Rw.d) (xs3 ++ [.ref q4]) := by
    rw [List.map_append]
    exact TpL.append ((X3.tups A4.tu).tups f5.tu) (.cons (.tup (f5.tu _ _ A4.at_) (.cons (.str _) (.cons (.int _) .nil))) .nil)
  have T5 : Tups H H5 := (T3.trans A4.tu).trans f5.tu
  have F5 : Fr [m] H H5 := ((F2.trans f3).al A4).trans f5
  obtain ⟨⟨dx5, ho5⟩, hm5⟩ := C5
  unfold t_Coder_loop_3; refine st_seq ?_
  push_cast [ho5, lk_m_lay, T5 _ _ ha]
  have LR : (rs ++ [Rw.top] ++ e.code ++ [Rw.unless 0]).length = rs.length + e.code.length + 2 := by simp only [List.length_append, List.length_cons, List.length_nil]; omega
  refine ⟨o, m, v1, _, _, .row s, rfl, ⟨⟨dx5, ho5⟩, hm5⟩, X5, ts.tups T5, trivial, by simp only [Un.dp]; omega, ok.2, by rw [LR]; simp only [Un.cnt]; omega, fun xs6 H6 C6 X6 f6 => ?_⟩
  have lse := ls (rs.length + e.code.length + 2)
  rw [LR] at X6
  simp only [Un.code] at X6
  have F6 : Fr [m] H H6 := F5.trans f6
  obtain ⟨⟨dx6, ho6⟩, hm6⟩ := C6
  have L6 : xs6.length = rs.length + e.code.length + 2 + (codeL s (rs.length + e.code.length + 2)).length := by rw [X6.length, List.length_map]; simp only [List.length_append, List.length_cons, List.length_nil]; omega
  unfold t_Coder_loop_4; refine st_seq ?_
  push_cast [ho6, lk_m_put]
  refine ⟨(by simp only [List.length_cons, List.length_nil]; decide), fun q7 H7 A7 => ?_⟩
  refine ⟨o, m, _, xs6, rfl, ⟨⟨dx6, A7.k ho6⟩, A7.k hm6⟩, by omega, fun H8 C8 f8 => ?_⟩
  have F8 : Fr [m] H H8 := (F6.al A7).trans f8
  obtain ⟨⟨dx8, ho8⟩, hm8⟩ := C8
  push_cast [ho8, lk_made, hm8]
  refine ⟨(by simp only [List.length_cons, List.length_nil]; decide), fun q9 H9 A9 => ?_⟩
  push_cast [A9.k ho8, lk_made, A9.k hm8]
  have ne : o ≠ m := ne_of ho hm (by simp)
  have L8 : (xs6 ++ [V.ref q7]).length = rs.length + e.code.length + (codeL s (rs.length + e.code.length + 2)).length + 3 := by simp only [List.length_append, List.length_cons, List.length_nil]; omega
  refine ⟨rs.length + 1 + e.code.length, ixN_len (by omega) (by rw [L3]), fun H10 M10 => ?_⟩
  refine k _ _ ⟨⟨dx8, M10.k (A9.k ho8) ne⟩, M10.at_⟩ ?_ ((F8.al A9).mu M10 (by simp))
  have U : Tups H8 H10 := A9.tu.trans M10.tu
  have e1 : rs ++ Un.code (.st (.whl e s)) rs.length = ((rs ++ [Rw.top] ++ e.code) ++ [Rw.unless (rs.length + e.code.length + (codeL s (rs.length + e.code.length + 2)).length + 3)] ++ (codeL s (rs.length + e.code.length + 2) ++ [Rw.go rs.length])) := by
    simp only [Un.code, Sm.code, List.append_assoc]
  have e2 : (rs ++ [Rw.top] ++ e.code).length = rs.length + 1 + e.code.length := by simp only [List.length_append, List.length_cons, List.length_nil]
  rw [e1, ← set_mid _ _ (Rw.unless 0), e2, List.map_set]
  refine TpL.set _ ?_ (.tup (M10.tu _ _ A9.at_) (.cons (.str _) (.cons ?_ .nil)))
  · rw [← List.append_assoc, List.map_append]
    refine TpL.append (((X6.tups A7.tu).tups f8.tu).tups U) (.cons (.tup (U _ _ (f8.tu _ _ A7.at_)) (.cons (.str _) (.cons ?_ .nil))) .nil)
    rw [tp_int, L]
  · rw [tp_int, L8]
theorem rd_Coder_choice {K : PySem.W.Frag} {c : CA} {n : Nat} {vs : List V} {H : Hp} {Q : VK} {E : XK} (h : sp_Coder_choice c (n + 1) vs H Q E) : t_Coder_choice K c n { nx := fun _ H' => Q .non H', rt := Q } (start ["_", "_", "_", "_"] vs) H := by
  obtain ⟨o, m, v, xs, rs, u, rfl, C0, hx, hv, gu, hd, ok, hl, k⟩ := h
  show t_Coder_choice K c n _ [some (.ref o), some v, none, none] H
  obtain ⟨⟨dx, ho⟩, hm⟩ := C0
  have L : xs.length = rs.length := by rw [hx.length, List.length_map]
  obtain ⟨e, s, t, rfl⟩ : ∃ e s t, u = .st (.ite e s t) := by
    cases u with
    | row l => exact gu.elim
    | st s => cases s <;> first | exact gu.elim | exact ⟨_, _, _, rfl⟩
  obtain ⟨a, ve, v1, v2, rfl, ha, te, ts, tt⟩ := tp_ite hv
  have le := Ex.len32 ok.1.2
  have ls : ∀ b, (codeL s b).length ≤ 35 * cntL s := fun b => len35L ok.2.1
  have lt : ∀ b, (codeL t b).length ≤ 35 * cntL t := fun b => len35L ok.2.2
  simp only [Un.dp, Sm.dp] at hd
  simp only [Un.cnt, Sm.cnt] at hl
  unfold t_Coder_choice; refine st_seq ?_
  push_cast [ho, lk_m_part, ha]
  refine ⟨o, m, ve, _, _, e, rfl, ⟨⟨dx, ho⟩, hm⟩, hx, te, Nat.le_trans ok.1.2 (by decide), by omega, fun xs3 H3 C3 X3 f3 => ?_⟩
  have T3 : Tups H H3 := f3.tu
  obtain ⟨⟨dx3, ho3⟩, hm3⟩ := C3
  have L3 : xs3.length = rs.length + e.code.length := by rw [X3.length, List.length_map]; simp only [List.length_append, List.length_cons, List.length_nil]
  unfold t_Coder_choice_1; refine st_seq ?_
  push_cast [ho3, lk_m_put]
  refine ⟨(by simp only [List.length_cons, List.length_nil]; decide), fun q4 H4 A4 => ?_⟩
  refine ⟨o, m, _, xs3, rfl, ⟨⟨dx3, A4.k ho3⟩, A4.k hm3⟩, by omega, fun H5 C5 f5 => ?_⟩
  have X5 : TpL H5 ((rs ++ e.code ++ [Rw.unless 0]).map Rw.d) (xs3 ++ [.ref q4]) := by
    rw [List.map_append]
    exact TpL.append ((X3.tups A4.tu).tups f5.tu) (.cons (.tup (f5.tu _ _ A4.at_) (.cons (.str _) (.cons (.int _) .nil))) .nil)
  have T5 : Tups H H5 := (T3.trans A4.tu).trans f5.tu
  have F5 : Fr [m] H H5 := (f3.al A4).trans f5
  obtain ⟨⟨dx5, ho5⟩, hm5⟩ := C5
  unfold t_Coder_choice_2; refine st_seq ?_
  push_cast [ho5, lk_m_lay, T5 _ _ ha]
  have LR : (rs ++ e.code ++ [Rw.unless 0]).length = rs.length + e.code.length + 1 := by simp only [List.length_append, List.length_cons, List.length_nil]
  refine ⟨o, m, v1, _, _, .row s, rfl, ⟨⟨dx5, ho5⟩, hm5⟩, X5, ts.tups T5, trivial, by simp only [Un.dp]; omega, ok.2.1, by rw [LR]; simp only [Un.cnt]; omega, fun xs6 H6 C6 X6 f6 => ?_⟩
  have lse := ls (rs.length + e.code.length + 1)
  rw [LR] at X6
  simp only [Un.code] at X6
  have F6 : Fr [m] H H6 := F5.trans f6
  obtain ⟨⟨dx6, ho6⟩, hm6⟩ := C6
  have L6 : xs6.length = rs.length + e.code.length + 1 + (codeL s (rs.length + e.code.length + 1)).length := by rw [X6.length, List.length_map]; simp only [List.length_append, List.length_cons, List.length_nil]
  unfold t_Coder_choice_3; refine st_seq ?_
  push_cast [ho6, lk_m_put]
  refine ⟨(by simp only [List.length_cons, List.length_nil]; decide), fun q7 H7 A7 => ?_⟩
  refine ⟨o, m, _, xs6, rfl, ⟨⟨dx6, A7.k ho6⟩, A7.k hm6⟩, by omega, fun H8 C8 f8 => ?_⟩
  have F8 : Fr [m] H H8 := (F6.al A7).trans f8
  obtain ⟨⟨dx8, ho8⟩, hm8⟩ := C8
  have X8 : TpL H8 ((rs ++ e.code ++ [Rw.unless 0] ++ codeL s (rs.length + e.code.length + 1) ++ [Rw.go 0]).map Rw.d) (xs6 ++ [.ref q7]) := by
    rw [List.map_append]
    exact TpL.append ((X6.tups A7.tu).tups f8.tu) (.cons (.tup (f8.tu _ _ A7.at_) (.cons (.str _) (.cons (.int _) .nil))) .nil)
  unfold t_Coder_choice_4; refine st_seq ?_
  push_cast [ho8, lk_made, hm8]
  refine ⟨(by simp only [List.length_cons, List.length_nil]; decide), fun q9 H9 A9 => ?_⟩
  push_cast [A9.k ho8, lk_made, A9.k hm8]
  have ne : o ≠ m := ne_of ho hm (by simp)
  have L8 : (xs6 ++ [V.ref q7]).length = rs.length + e.code.length + (codeL s (rs.length + e.code.length + 1)).length + 2 := by simp only [List.length_append, List.length_cons, List.length_nil]; omega
  refine ⟨rs.length + e.code.length, ixN_len (by omega) (by rw [L3]), fun H10 M10 => ?_⟩
  have F10 : Fr [m] H H10 := (F8.al A9).mu M10 (by simp)
  have ho10 := M10.k (A9.k ho8) ne
  have hm10 := M10.at_
  have U : Tups H8 H10 := A9.tu.trans M10.tu
  have X10 : TpL H10 (((rs ++ e.code) ++ [Rw.unless (rs.length + e.code.length + (codeL s (rs.length + e.code.length + 1)).length + 2)] ++ (codeL s (rs.length + e.code.length + 1) ++ [Rw.go 0])).map Rw.d) ((xs6 ++ [V.ref q7]).set (rs.length + e.code.length) (.ref q9)) := by
    have e2 : (rs ++ e.code).length = rs.length + e.code.length := by simp only [List.length_append]
    rw [← set_mid _ _ (Rw.unless 0), e2, List.map_set]
    refine TpL.set _ ?_ (.tup (M10.tu _ _ A9.at_) (.cons (.str _) (.cons ?_ .nil)))
    · rw [← List.append_assoc]; exact X8.tups U
    · rw [tp_int, L8]
  have LQ : ((rs ++ e.code) ++ [Rw.unless (rs.length + e.code.length + (codeL s (rs.length + e.code.length + 1)).length + 2)] ++ (codeL s (rs.length + e.code.length + 1) ++ [Rw.go 0])).length = rs.length + e.code.length + (codeL s (rs.length + e.code.length + 1)).length + 2 := by
    simp only [List.length_append, List.length_cons, List.length_nil]; omega
  unfold t_Coder_choice_5; refine st_seq ?_
  push_cast [ho10, lk_m_lay, F10.tu _ _ ha]
  have lte := lt (rs.length + e.code.length + (codeL s (rs.length + e.code.length + 1)).length + 2)
  refine ⟨o, m, v2, _, _, .row t, rfl, ⟨⟨dx8, ho10⟩, hm10⟩, X10, tt.tups F10.tu, trivial, by simp only [Un.dp]; omega, ok.2.2, by rw [LQ]; simp only [Un.cnt]; omega, fun xs11 H11 C11 X11 f11 => ?_⟩
  rw [LQ] at X11
  simp only [Un.code] at X11
  obtain ⟨⟨dx11, ho11⟩, hm11⟩ := C11
  push_cast [ho11, lk_made, hm11]
  refine ⟨(by simp only [List.length_cons, List.length_nil]; decide), fun q12 H12 A12 => ?_⟩
  push_cast [A12.k ho11, lk_made, A12.k hm11]
  have L11 : xs11.length = rs.length + e.code.length + (codeL s (rs.length + e.code.length + 1)).length + 2 + (codeL t (rs.length + e.code.length + (codeL s (rs.length + e.code.length + 1)).length + 2)).length := by
    rw [X11.length, List.length_map, List.length_append, LQ]
  refine ⟨rs.length + e.code.length + 1 + (codeL s (rs.length + e.code.length + 1)).length, ixN_len (by omega) (by rw [L6]), fun H13 M13 => ?_⟩
  refine k _ _ ⟨⟨dx11, M13.k (A12.k ho11) ne⟩, M13.at_⟩ ?_ (((F10.trans f11).al A12).mu M13 (by simp))
  have e1 : rs ++ Un.code (.st (.ite e s t)) rs.length = ((rs ++ e.code ++ [Rw.unless (rs.length + e.code.length + (codeL s (rs.length + e.code.length + 1)).length + 2)] ++ codeL s (rs.length + e.code.length + 1)) ++
      [Rw.go (rs.length + e.code.length + (codeL s (rs.length + e.code.length + 1)).length + 2 + (codeL t (rs.length + e.code.length + (codeL s (rs.length + e.code.length + 1)).length + 2)).length)] ++ codeL t (rs.length + e.code.length + (codeL s (rs.length + e.code.length + 1)).length + 2)) := by
    simp only [Un.code, Sm.code, List.append_assoc]
  have e2 : (rs ++ e.code ++ [Rw.unless (rs.length + e.code.length + (codeL s (rs.length + e.code.length + 1)).length + 2)] ++ codeL s (rs.length + e.code.length + 1)).length = rs.length + e.code.length + 1 + (codeL s (rs.length + e.code.length + 1)).length := by
    simp only [List.length_append, List.length_cons, List.length_nil]
  rw [e1, ← set_mid _ _ (Rw.go 0), e2, List.map_set]
  refine TpL.set _ ?_ (.tup (M13.tu _ _ A12.at_) (.cons (.str _) (.cons ?_ .nil)))
  · have := (X11.tups A12.tu).tups M13.tu
    simpa only [List.append_assoc] using this
  · rw [tp_int, L11]
theorem rd_coded {K : PySem.W.Frag} {c : CA} {vs : List V} {H : Hp} {Q : VK} {E : XK} (h : sp_coded vs H Q E) : t_coded K c { nx := fun _ H' => Q .non H', rt := Q } (start ["_", "_"] vs) H := by
  obtain ⟨v, p, rfl, hv, ⟨ok, hd, hc⟩, k⟩ := h
  show t_coded K c _ [some v, none] H
  unfold t_coded; refine st_seq ?_
  push_cast
  intro o dx H1 A1
  refine ⟨o, dx, rfl, A1.at_, fun m H2 hm C2 f2 => ⟨rfl, ?_⟩⟩
  have F2 : Fr [] H H2 := (A1.fr.trans f2).drop A1.new
  have hm0 : H m = none := by
    cases e : H m with
    | none => rfl
    | some u => rw [A1.k e] at hm; cases hm
  obtain ⟨⟨dx2, ho2⟩, hm2⟩ := C2
  unfold t_coded_1; refine st_seq ?_
  push_cast [ho2, lk_m_lay]
  refine ⟨o, m, v, [], [], .row p, rfl, ⟨⟨dx2, ho2⟩, hm2⟩, .nil, hv.tups F2.tu, trivial, by simp only [Un.dp]; omega, ok, by simp only [Un.cnt, List.length_nil]; omega, fun xs3 H3 C3 X3 f3 => ?_⟩
  obtain ⟨⟨dx3, ho3⟩, hm3⟩ := C3
  simp only [List.nil_append, List.length_nil, Un.code] at X3
  have l3 := len35L (b := 0) ok
  unfold t_coded_2; refine st_seq ?_
  push_cast [ho3, lk_m_put]
  refine ⟨(by simp only [List.length_cons, List.length_nil]; decide), fun q H4 A4 => ?_⟩
  refine ⟨o, m, _, xs3, rfl, ⟨⟨dx3, A4.k ho3⟩, A4.k hm3⟩, by rw [X3.length, List.length_map]; omega, fun H5 C5 f5 => ?_⟩
  obtain ⟨⟨dx5, ho5⟩, hm5⟩ := C5
  push_cast [ho5, lk_made, hm5]
  intro q6 H6 A6
  refine k _ _ (.tup A6.at_ ?_) (((((F2.sub0 (S := [m])).trans f3).al A4).trans f5).al A6 |>.drop hm0)
  unfold progC
  rw [List.map_append]
  exact TpL.append (((X3.tups A4.tu).tups f5.tu).tups A6.tu) (.cons (.tup (A6.k (f5.tu _ _ A4.at_)) (.cons (.str _) .nil)) .nil)

/-- _law_turns -/
def t_L_turns (K : PySem.W.Frag) (n : Nat) : TS :=
  (tSeq (tAsg (tC (.bl true)) (gName 3))
    (tWhile (tB (tVar 3))
    (tSeq (tAsg (tOp (rI0 fun i j => .int (i - j)) (tOp rXL (tVar 0) (tC (.int 1))) (tC (.int 1))) (gSub (tVar 0) (tC (.int 1)) rStL))
    (tSeq (tIfS (tTest (tOp (rI0 fun i j => .bl (decide (i < j))) (tOp rXL (tVar 0) (tC (.int 1))) (tC (.int 0)))) (tSeq (tAsg (xTup (tCons (tC (.str (wd 27))) tNil)) (gSub (tVar 0) (tC (.int 3)) rStL))
    tRetN) tNext)
    (tSeq (tAsg (tCall (sp_L_valued 8) [] E0 (tCons (tVar 0) (tCons (tOp rXT (tVar 1) (tC (.int 1))) (tCons (tOp (rI0 fun i j => .int (i + j)) (tVar 2) (tC (.int 1))) tNil)))) (gName 4))
    (tSeq (tAsg (tAndV (tOp rIsN (tOp rXL (tVar 0) (tC (.int 3))) (tC .non)) (tCall sp_L_is_so [] E0 (tCons (tVar 4) tNil))) (gName 3))
    (tIfS (tB (tVar 3)) (tSeq (tDrop (tCall (sp_L_does n) [] E0 (tCons (tVar 0) (tCons (tOp rXT (tVar 1) (tC (.int 2))) (tCons (tOp (rI0 fun i j => .int (i + j)) (tOp (rI0 fun i j => .int (i + j)) (tVar 2) (tC (.int 2))) (tCall (sp_L_size 8) [] E0 (tCons (tOp rXT (tVar 1) (tC (.int 1))) tNil))) tNil)))))
    (tAsg (tOp rIsN (tOp rXL (tVar 0) (tC (.int 3))) (tC .non)) (gName 3))) tNext)))))))

/-- _law_does -/
def t_L_does (K : PySem.W.Frag) (n : Nat) : TS :=
  (tSeq (tAsg (tOp rXT (tVar 1) (tC (.int 0))) (gName 3))
    (tIfS (tTest (tOp rEq (tVar 3) (tC (.str (wd 13))))) (tFor (iTup K (tOp rXT (tVar 1) (tC (.int 1)))) (gName 4)
    (tIfS (tTest (tOp rIsN (tOp rXL (tVar 0) (tC (.int 3))) (tC .non))) (tSeq (tDrop (tCall (sp_L_does n) [] E0 (tCons (tVar 0) (tCons (tVar 4) (tCons (tVar 2) tNil)))))
    (tAsg (tOp (rI0 fun i j => .int (i + j)) (tVar 2) (tCall (sp_L_long 20) [] E0 (tCons (tVar 4) tNil))) (gName 2))) tNext)) (tIfS (tTest (tOp rEq (tVar 3) (tC (.str (wd 15))))) (tDrop (tCall (sp_L_turns n) [] E0 (tCons (tVar 0) (tCons (tVar 1) (tCons (tVar 2) tNil))))) (tIfS (tTest (tOp rEq (tVar 3) (tC (.str (wd 8))))) (tSeq (tAsg (tCall (sp_L_valued 8) [] E0 (tCons (tVar 0) (tCons (tOp rXT (tVar 1) (tC (.int 2))) (tCons (tVar 2) tNil)))) (gName 5))
    (tIfS (tTest (tOp rIsN (tOp rXL (tVar 0) (tC (.int 3))) (tC .non))) (xPutS (tOp rXL (tVar 0) (tC (.int 0))) (tOp rXT (tVar 1) (tC (.int 1))) (tVar 5)) tNext)) (tSeq (tAsg (tCall (sp_L_valued 8) [] E0 (tCons (tVar 0) (tCons (tOp rXT (tVar 1) (tC (.int 1))) (tCons (tVar 2) tNil)))) (gName 5))
    (tIfS (tAnd (tTest (tOp rIsN (tOp rXL (tVar 0) (tC (.int 3))) (tC .non))) (tTest (tOp rEq (tVar 3) (tC (.str (wd 7)))))) (tDrop (tApp (tOp rXL (tVar 0) (tC (.int 2))) (tVar 5))) (tIfS (tAnd (tTest (tOp rIsN (tOp rXL (tVar 0) (tC (.int 3))) (tC .non))) (tB (tCall sp_L_is_so [] E0 (tCons (tVar 5) tNil)))) (tDrop (tCall (sp_L_does n) [] E0 (tCons (tVar 0) (tCons (tOp rXT (tVar 1) (tC (.int 2))) (tCons (tOp (rI0 fun i j => .int (i + j)) (tOp (rI0 fun i j => .int (i + j)) (tVar 2) (tCall (sp_L_size 8) [] E0 (tCons (tOp rXT (tVar 1) (tC (.int 1))) tNil))) (tC (.int 1))) tNil))))) (tIfS (tTest (tOp rIsN (tOp rXL (tVar 0) (tC (.int 3))) (tC .non))) (tDrop (tCall (sp_L_does n) [] E0 (tCons (tVar 0) (tCons (tOp rXT (tVar 1) (tC (.int 3))) (tCons (tOp (rI0 fun i j => .int (i + j)) (tOp (rI0 fun i j => .int (i + j)) (tOp (rI0 fun i j => .int (i + j)) (tVar 2) (tCall (sp_L_size 8) [] E0 (tCons (tOp rXT (tVar 1) (tC (.int 1))) tNil))) (tCall (sp_L_long 20) [] E0 (tCons (tOp rXT (tVar 1) (tC (.int 2))) tNil))) (tC (.int 2))) tNil))))) tNext))))))))

/-- _law_walked from 2 -/
def t_L_walked_2 (K : PySem.W.Frag) : TS :=
  (tSeq (tIfS (tTest (tOp rIsN (tOp rXL (tVar 3) (tC (.int 3))) (tC .non))) (tAsg (xTup (tCons (tC (.str (wd 26))) tNil)) (gSub (tVar 3) (tC (.int 3)) rStL)) tNext)
    (tRet (xTup (tCons (tOp rXL (tVar 3) (tC (.int 2))) (tCons (tOp rXL (tVar 3) (tC (.int 3))) (tCons (tOp rXL (tVar 3) (tC (.int 0))) tNil))))))

/-- _law_walked from 1 -/
def t_L_walked_1 (K : PySem.W.Frag) : TS :=
  tSeq (tDrop (tCall (sp_L_does 40) [] E0 (tCons (tVar 3) (tCons (tVar 0) (tCons (tC (.int 0)) tNil))))) (t_L_walked_2 K)

/-- _law_walked -/
def t_L_walked (K : PySem.W.Frag) : TS :=
  tSeq (tAsg (xLst (tCons (tCB rDctD (tCons (tVar 1) tNil)) (tCons (tVar 2) (tCons (xLst tNil) (tCons (tC .non) tNil))))) (gName 3)) (t_L_walked_1 K)

/-- walked from 1 -/
def t_walked_1 (K : PySem.W.Frag) (c : CA) : TS :=
  (tSeq (tWhile (tTest (tOp rIsN (xFld c.state (tVar 3) ("last" : Str)) (tC .non)))
    (tDrop (tCall (sp_do_row c) [] E0 (tCons (tVar 0) (tCons (tVar 3) tNil)))))
    (tRet (xTup (tCons (xFld c.state (tVar 3) ("said" : Str)) (tCons (xFld c.state (tVar 3) ("last" : Str)) (tCons (xFld c.state (tVar 3) ("names" : Str)) tNil))))))

/-- walked -/
def t_walked (K : PySem.W.Frag) (c : CA) : TS :=
  tSeq (tAsg (xMake c.state (sp_State___init__ c) (tCons (tVar 1) (tCons (tVar 2) tNil))) (gName 3)) (t_walked_1 K c)

/-! ### where the parts of a while and an if stand -/
structure WAt (code : List Rw) (p : Nat) (e : Ex) (s : List Sm) (z : Nat) : Prop where
  top : code[p]? = some .top
  ex : At code (p + 1) e.code
  un : code[p + 1 + e.code.length]? = some (.unless z)
  body : At code (p + e.code.length + 2) (codeL s (p + e.code.length + 2))
  go : code[p + e.code.length + 2 + (hsL s).length]? = some (.go p)
theorem wAt {code : List Rw} {p : Nat} {e : Ex} {s : List Sm} (h : At code p ((Sm.whl e s).code p)) : WAt code p e s (p + Un.len (.st (.whl e s))) := by
  simp only [Sm.code] at h
  obtain ⟨hc, hc5⟩ := h.split
  obtain ⟨hc, hc4⟩ := hc.split
  obtain ⟨hc, hc3⟩ := hc.split
  obtain ⟨hc1, hc2⟩ := hc.split
  have ls := hsL_len s (p + e.code.length + 2)
  have el : Un.len (.st (.whl e s)) = e.code.length + (codeL s (p + e.code.length + 2)).length + 3 := by simp only [Un.len, Sm.hs, List.length_append, Ex.hs_len, ls, len1]; omega
  simp only [List.length_append, len1] at hc2 hc3 hc4 hc5
  refine ⟨hc1.one, hc2, ?_, ?_, ?_⟩
  · have := hc3.one
    rw [← Nat.add_assoc] at this
    rw [this, el]
    congr 2
    omega
  · rw [show p + (1 + e.code.length + 1) = p + e.code.length + 2 by omega] at hc4; exact hc4
  · have := hc5.one
    rw [show p + (1 + e.code.length + 1 + (codeL s (p + e.code.length + 2)).length) = p + e.code.length + 2 + (hsL s).length by omega] at this
    exact this
structure IAt (code : List Rw) (p : Nat) (e : Ex) (s t : List Sm) : Prop where
  ex : At code p e.code
  un : code[p + e.code.length]? = some (.unless (p + e.code.length + (hsL s).length + 2))
  yes : At code (p + e.code.length + 1) (codeL s (p + e.code.length + 1))
  go : code[p + e.code.length + 1 + (hsL s).length]? = some (.go (p + Un.len (.st (.ite e s t))))
  no : At code (p + e.code.length + (hsL s).length + 2) (codeL t (p + e.code.length + (hsL s).length + 2))
theorem iAt {code : List Rw} {p : Nat} {e : Ex} {s t : List Sm} (h : At code p ((Sm.ite e s t).code p)) : IAt code p e s t := by
  simp only [Sm.code] at h
  obtain ⟨hc, hc5⟩ := h.split
  obtain ⟨hc, hc4⟩ := hc.split
  obtain ⟨hc, hc3⟩ := hc.split
  obtain ⟨hc1, hc2⟩ := hc.split
  have ls := hsL_len s (p + e.code.length + 1)
  rw [← ls] at hc2 hc4 hc5
  have lt := hsL_len t (p + e.code.length + (hsL s).length + 2)
  have el : Un.len (.st (.ite e s t)) = e.code.length + (hsL s).length + (hsL t).length + 2 := by simp only [Un.len, Sm.hs, List.length_append, Ex.hs_len, len1]; omega
  simp only [List.length_append, len1] at hc2 hc3 hc4 hc5
  refine ⟨hc1, hc2.one, ?_, ?_, ?_⟩
  · rw [show p + (e.code.length + 1) = p + e.code.length + 1 by omega] at hc3; exact hc3
  · have := hc4.one
    rw [← ls, show p + (e.code.length + 1 + (hsL s).length) = p + e.code.length + 1 + (hsL s).length by omega] at this
    rw [this, el, ← lt]
    congr 2
    omega
  · rw [← ls, show p + (e.code.length + 1 + (hsL s).length + 1) = p + e.code.length + (hsL s).length + 2 by omega] at hc5; exact hc5
theorem rowAt {code : List Rw} {p i : Nat} {l : List Sm} {s : Sm} (h : At code p (codeL l p)) (hs : l[i]? = some s) : At code (p + (hsL (l.take i)).length) (s.code (p + (hsL (l.take i)).length)) := by
  have hi : i < l.length := (List.getElem?_eq_some_iff.mp hs).1
  have e : l = l.take i ++ s :: l.drop (i + 1) := by
    have h1 := List.take_append_drop i l
    have h2 : l.drop i = s :: l.drop (i + 1) := by
      rw [List.drop_eq_getElem_cons hi]
      have h3 := (List.getElem?_eq_some_iff.mp hs).2
      rw [h3]
    rw [h2] at h1
    exact h1.symm
  rw [e, codeL_append] at h
  obtain ⟨_, h2⟩ := h.split
  rw [← hsL_len (l.take i) p] at h2
  simp only [codeL] at h2
  exact h2.split.1
/-! ### steps by parts -/
section
variable {code : List Rw} {t : MS} {e : Ex} {s s2 : List Sm} {x : Vl} {z : Nat}
theorem w_dry (w : WAt code t.place e s z) (hl : t.last = none) (h : t.left - 1 < 0) : Reach code t { t with left := t.left - 1, last := some .dry } := by
  have := Reach.one (code := code) hl
  rw [step_at w.top] at this
  unfold stepR at this
  simp only [if_pos h] at this
  exact this
theorem w_top (w : WAt code t.place e s z) (hl : t.last = none) (h : ¬ t.left - 1 < 0) : Reach code t { t with left := t.left - 1, place := t.place + 1 } := by
  have := Reach.one (code := code) hl
  rw [step_at w.top] at this
  unfold stepR at this
  simp only [if_neg h] at this
  exact this
theorem r_unless {q : Nat} (h : code[t.place]? = some (.unless q)) (hl : t.last = none) (hs : t.st = [x]) : Reach code t { t with st := [], place := if x.so then t.place + 1 else q } := by
  have := Reach.one (code := code) hl
  rw [step_at h] at this
  unfold stepR at this
  simp only [hs] at this
  exact this
theorem r_go {q : Nat} (h : code[t.place]? = some (.go q)) (hl : t.last = none) : Reach code t { t with place := q } := by
  have := Reach.one (code := code) hl
  rw [step_at h] at this
  exact this
theorem r_say (h : code[t.place]? = some .say) (hl : t.last = none) (hs : t.st = [x]) : Reach code t { t with st := [], said := t.said ++ [x], place := t.place + 1 } := by
  have := Reach.one (code := code) hl
  rw [step_at h] at this
  unfold stepR at this
  simp only [hs] at this
  exact this
theorem r_set {y : Str} (h : code[t.place]? = some (.set y)) (hl : t.last = none) (hs : t.st = [x]) : Reach code t { t with st := [], names := nput t.names y x, place := t.place + 1 } := by
  have := Reach.one (code := code) hl
  rw [step_at h] at this
  unfold stepR at this
  simp only [hs] at this
  exact this
end
theorem RunAt.last_ {H : Hp} {r na sd : Addr} {s : MS} (R : RunAt H r na sd s) : ∃ la, H r = some (.lst [.ref na, .int s.left, .ref sd, la]) ∧ (la = V.non) = (s.last = none) := by
  obtain ⟨la, h1, h2⟩ := R.run
  refine ⟨la, h1, ?_⟩
  cases hl : s.last with
  | none => rw [hl] at h2; simp only [lastD, tp_non] at h2; subst h2; simp
  | some l => rw [hl] at h2; cases l <;> simp only [lastD, Ls.d, tp_tup] at h2 <;> obtain ⟨a, xs, rfl, _⟩ := h2 <;> simp
def TurnInv (H0 : Hp) (code : List Rw) (s : MS) (r na sd : Addr) (v : V) (len : Nat) (m : Nat) (σ : L2.St) (H : Hp) : Prop := ∃ (goes : Bool) (σ4 : Option V) (t : MS), σ = [some (.ref r), some v, some (.int (s.place : Nat)), some (.bl goes), σ4] ∧ RunAt H r na sd t ∧ Reach code s t ∧ Fr [r, na, sd] H0 H ∧
  (goes = true → t.last = none ∧ t.place = s.place ∧ t.st = [] ∧ m = (t.left + 1).toNat + 1) ∧ (goes = false → (t.last = none → t.place = s.place + len ∧ t.st = []))
theorem RunAt.left {H H' : Hp} {r na sd : Addr} {s : MS} {l : Int} {la : V} (R : RunAt H r na sd s) (h : Tp H (lastD s.last) la) (M : Mu H r (.lst [.ref na, .int l, .ref sd, la]) H') : RunAt H' r na sd { s with left := l } := by
  obtain ⟨la', h1, h2⟩ := R.run
  exact ⟨⟨la, M.at_, h.tups M.tu⟩, M.k R.nm (ne_of R.nm h1 (by simp)), M.k R.said R.ne.symm, R.ne⟩
theorem rd_L_turns {K : PySem.W.Frag} {n : Nat} {vs : List V} {H : Hp} {Q : VK} {E : XK} (h : sp_L_turns (n + 1) vs H Q E) : t_L_turns K n { nx := fun _ H' => Q .non H', rt := Q } (start ["_", "_", "_", "_", "_"] vs) H := by
  obtain ⟨r, na, sd, v, o, code, hts, s, rfl, hv, R, B, go, hd, hd20, ok, k⟩ := h
  show t_L_turns K n _ [some (.ref r), some v, some (.int (s.place : Nat)), none, none] H
  obtain ⟨e, b, rfl⟩ : ∃ e b, o = .st (.whl e b) := by
    cases o with
    | row l => exact go.elim
    | st s => cases s <;> first | exact go.elim | exact ⟨_, _, rfl⟩
  obtain ⟨a, ve, v1, rfl, ha, te, ts⟩ := tp_whl hv
  have w := wAt B.at_
  simp only [Un.dp, Sm.dp] at hd hd20
  unfold t_L_turns; refine st_seq ?_
  push_cast
  refine ⟨TurnInv H code s r na sd (.ref a) (Un.len (.st (.whl e b))), ⟨_, true, none, s, rfl, R, .refl _, .refl _ _, fun _ => ⟨B.last, rfl, B.st, rfl⟩, fun z => by cases z⟩, ?_⟩
  rintro m σ H1 ⟨goes, σ4, t, rfl, R1, re, f1, c1, c2⟩
  push_cast
  cases goes with
  | false =>
    push_cast
    exact k H1 t re (c2 rfl) R1 f1
  | true =>
    push_cast
    obtain ⟨tl, tp, tst, rfl⟩ := c1 rfl
    have hle := re.left
    refine ⟨fun σ' H' => ∃ m', m' < (t.left + 1).toNat + 1 ∧ TurnInv H code s r na sd (.ref a) (Un.len (.st (.whl e b))) m' σ' H', fun _ _ h => h, ?_⟩
    refine st_seq ?_
    push_cast [R1.go tl]
    intro H2 M2
    have R2 := R1.left (la := .non) (by rw [tl]; simp only [lastD, tp_non]) M2
    have f2 := f1.mu M2 (by simp)
    have ha2 := f2.tu _ _ ha
    have w' : WAt code t.place e b (s.place + Un.len (.st (.whl e b))) := by rw [tp]; exact w
    refine st_seq ?_
    push_cast [M2.at_]
    refine i2 (fun hneg => ?_) fun hpos => ?_
    · refine st_seq ?_
      push_cast
      refine ⟨(by simp only [List.length_cons, List.length_nil]; decide), fun p H3 A3 => ?_⟩
      push_cast [A3.k M2.at_]
      intro H4 M4
      refine k H4 _ (re.trans (w_dry w' tl hneg)) (fun z => by cases z) ⟨⟨_, M4.at_, .tup (M4.tu _ _ A3.at_) (.cons (.str _) .nil)⟩, M4.k (A3.k R2.nm) (ne_of (A3.k R2.nm) (A3.k M2.at_) (by simp)), M4.k (A3.k R2.said) R2.ne.symm, R2.ne⟩ ((f2.al A3).mu M4 (by simp))
    · have re1 := re.trans (w_top w' tl hpos)
      have in1 := re1.in_ B.ty B.inn
      obtain ⟨x1, x2⟩ := Ex.reach (code := code) e { t with left := t.left - 1, place := t.place + 1 } tl w'.ex
      simp only at x1 x2
      refine st_seq ?_
      push_cast [ha2]
      refine ⟨r, na, sd, { t with left := t.left - 1, place := t.place + 1 }, ve, e, s.place + 1, rfl, te.tups f2.tu, R2.like rfl rfl rfl rfl, tl, Nat.le_trans ok.1.2 (by decide), Nat.le_trans ok.1.2 (by decide), ok.1.1, in1.ok.nm, fun x H3 ex R3 f3 => ?_, fun q H3 ex R3 f3 => ?_⟩
      · rw [← tp] at ex
        have re2 := re1.trans (x1 x ex)
        have f3' := f2.trans (f3.sub0 (S := [r, na, sd]))
        have ha3 := f3.tu _ _ ha2
        refine st_seq ?_
        push_cast [R3.go tl]
        refine ⟨x, rfl, fun H4 f4 => ?_⟩
        have R4 := R3.keep f4
        have f4' := f3'.trans (f4.sub0 (S := [r, na, sd]))
        have ha4 := f4.tu _ _ ha3
        have un := r_unless (x := x) (t := { t with left := t.left - 1, st := x :: t.st, place := t.place + 1 + e.code.length }) w'.un tl (by rw [tst])
        cases hx : x.so with
        | false =>
          push_cast
          simp only [hx, Bool.false_eq_true, if_false] at un
          exact ⟨0, by omega, false, _, { t with left := t.left - 1, st := [], place := s.place + Un.len (.st (.whl e b)) }, rfl, R4.like rfl rfl rfl rfl, re2.trans un, f4', nofun, fun _ _ => ⟨rfl, rfl⟩⟩
        | true =>
          push_cast
          simp only [hx, if_true] at un
          have re3 := re2.trans un
          refine st_seq ?_
          push_cast [ha4]
          refine ⟨ve, e, rfl, (te.tups (f2.tu.trans f3.tu)).tups f4.tu, Nat.le_trans ok.1.2 (by decide), fun H5 f5 => ?_⟩
          have R5 := R4.keep f5
          have f5' := f4'.trans (f5.sub0 (S := [r, na, sd]))
          have ha5 := f5.tu _ _ ha4
          have in3 := re3.in_ B.ty B.inn
          push_cast [ha5]
          have pl : t.place + 1 + e.code.length + 1 = s.place + e.code.length + 2 := by omega
          refine ⟨r, na, sd, v1, .row b, code, hts, { t with left := t.left - 1, st := [], place := t.place + 1 + e.code.length + 1 }, ?_, ts.tups f5'.tu, R5.like rfl rfl rfl rfl, ⟨B.ty, in3, tl, rfl, ?_, B.bd.reach re3⟩, trivial, by simp only [Un.dp]; omega, by simp only [Un.dp]; omega, ok.2, fun H6 u ru hu R6 f6 => ?_⟩
          · simp only [tp, List.cons.injEq, V.int.injEq, and_true, true_and]; omega
          · simp only [Un.code]; rw [pl]; exact w.body
          · have f6' := f5'.trans f6
            have re6 := re3.trans ru
            obtain ⟨la, hr6, nl⟩ := R6.last_
            push_cast [hr6]
            cases hul : u.last with
            | none =>
              obtain ⟨up, us⟩ := hu hul
              have hgo := r_go (t := u) (code := code) (q := s.place) (by rw [up]; simp only [Un.len]; rw [pl]; exact w.go) hul
              have ul := (ru.trans hgo).left
              simp only at ul
              refine ⟨(u.left + 1).toNat + 1, ?_, true, some x.v, { u with place := s.place }, ?_, R6.like rfl rfl rfl rfl, re6.trans hgo, f6', fun _ => ⟨hul, rfl, us, rfl⟩, nofun⟩
              · omega
              · rw [show decide (la = V.non) = true from decide_eq_true (by rw [nl]; exact hul)]
            | some l =>
              refine ⟨0, by omega, false, some x.v, u, ?_, R6, re6, f6', nofun, fun _ z => absurd z (by rw [hul]; simp)⟩
              rw [show decide (la = V.non) = false from decide_eq_false (by rw [nl, hul]; simp)]
      · rw [← tp] at ex
        obtain ⟨st, pl, rx⟩ := x2 q ex
        obtain ⟨la, hr3, nl⟩ := R3.last_
        refine st_seq ?_
        push_cast [hr3]
        have nl' : (la = V.non) = False := by rw [nl]; simp
        push_cast [nl']
        exact ⟨0, by omega, false, _, { t with left := t.left - 1, st := st, place := pl, last := some (.mixed q) }, rfl, R3.like rfl rfl rfl rfl, re1.trans rx, f2.trans (f3.mono (by simp)), nofun, nofun⟩
def DoesInv (H0 : Hp) (code : List Rw) (s : MS) (r na sd : Addr) (v w : V) (l : List Sm) (i : Nat) (σ : L2.St) (H : Hp) : Prop := ∃ (q : Nat) (σ4 : Option V) (t : MS), σ = [some (.ref r), some v, some (.int (q : Nat)), some w, σ4, none] ∧ RunAt H r na sd t ∧ Reach code s t ∧ Fr [r, na, sd] H0 H ∧
  (t.last = none → q = s.place + (hsL (l.take i)).length ∧ t.place = q ∧ t.st = [])
theorem rd_L_does {K : PySem.W.Frag} {n : Nat} {vs : List V} {H : Hp} {Q : VK} {E : XK} (h : sp_L_does (n + 1) vs H Q E) : t_L_does K n { nx := fun _ H' => Q .non H', rt := Q } (start ["_", "_", "_", "_", "_", "_"] vs) H := by
  obtain ⟨r, na, sd, v, o, code, hts, s, rfl, hv, R, B, _, hd, hd20, ok, k⟩ := h
  show t_L_does K n _ [some (.ref r), some v, some (.int (s.place : Nat)), none, none, none] H
  unfold t_L_does; refine st_seq ?_
  cases o with
  | row l =>
    obtain ⟨a, a2, ys, rfl, ha, ha2, hy⟩ := tp_row hv
    simp only [Un.dp] at hd hd20
    push_cast [ha]
    refine forT (a := a2) (xs := ys) (fun R h => by push_cast [ha]; exact h) ha2 (DoesInv H code s r na sd (.ref a) (.str (wd 13)) l) ⟨s.place, none, s, rfl, R, .refl _, .refl _ _, fun _ => ⟨by simp [hsL], rfl, B.st⟩⟩ ?_ ?_ ?_
    · rintro i σ' H' ⟨q, σ4, t, rfl, R1, re, f, _⟩
      exact f.tu _ _ ha2
    · rintro i x σ' H' hx ⟨q, σ4, t, rfl, R1, re, f, c1⟩
      obtain ⟨d, hd1, hd2⟩ := hy.get' hx
      obtain ⟨m, hm, rfl⟩ := map_get hd1
      have mm := mem_of_get hm
      have d1 := dpL_mem mm
      have ok1 := okL_mem ok mm
      show tIfS _ _ _ _ [some (.ref r), some (.ref a), some (.int (q : Nat)), some (.str (wd 13)), some x, none] H'
      obtain ⟨la, hr, nl⟩ := R1.last_
      push_cast [hr]
      cases htl : t.last with
      | some z =>
        have nl' : (la = V.non) = False := by rw [nl, htl]; simp
        push_cast [nl']
        exact ⟨q, _, t, rfl, R1, re, f, fun z => absurd z (by rw [htl]; simp)⟩
      | none =>
        have nl' : (la = V.non) = True := by rw [nl, htl]; simp
        push_cast [nl']
        obtain ⟨e1, e2, e3⟩ := c1 htl
        refine st_seq ?_
        push_cast
        have at1 := rowAt B.at_ hm
        refine ⟨r, na, sd, x, .st m, code, hts, t, by rw [e2], hd2.tups f.tu, R1, ⟨B.ty, re.in_ B.ty B.inn, htl, e3, by rw [e2, e1]; exact at1, B.bd.reach re⟩, trivial, by simp only [Un.dp]; omega, by simp only [Un.dp]; omega, ok1, fun H2 u ru hu R2 f2 => ?_⟩
        push_cast
        refine ⟨x, .st m, rfl, (hd2.tups f.tu).tups f2.tu, by simp only [Un.dp]; omega, ok1, fun H3 f3 => ?_⟩
        push_cast
        refine ⟨q + Un.len (.st m), _, u, by rw [Int.natCast_add], R2.keep f3, re.trans ru, (f.trans f2).trans f3.sub0, fun hul => ?_⟩
        obtain ⟨g1, g2⟩ := hu hul
        refine ⟨?_, by rw [g1, e2], g2⟩
        rw [take_snoc hm, hsL_snoc, List.length_append, e1]
        simp only [Un.len]
        omega
    · rintro σ' H' ⟨q, σ4, t, rfl, R1, re, f, c1⟩
      rw [hy.length, List.length_map, List.take_length] at c1
      exact k H' t re (fun hl => by obtain ⟨e1, e2, e3⟩ := c1 hl; exact ⟨by rw [e2, e1]; rfl, e3⟩) R1 f
  | st m =>
    cases m with
    | whl e b =>
      have hv0 := hv
      obtain ⟨a, ve, v1, rfl, ha, te, ts⟩ := tp_whl hv
      push_cast [ha]
      exact ⟨r, na, sd, _, _, code, hts, s, rfl, hv0, R, B, trivial, by omega, hd20, ok, k⟩
    | set x e =>
      obtain ⟨a, ve, rfl, ha, te⟩ := tp_set hv
      have hat := B.at_
      simp only [Un.code, Sm.code] at hat
      obtain ⟨h1, h2⟩ := hat.split
      obtain ⟨x1, x2⟩ := Ex.reach (code := code) e s B.last h1
      push_cast [ha]
      refine st_seq ?_
      push_cast [ha]
      refine ⟨r, na, sd, s, ve, e, s.place, rfl, te, R, B.last, Nat.le_trans ok.2.2 (by decide), Nat.le_trans ok.2.2 (by decide), ok.2.1, B.inn.ok.nm, fun y H2 ey R2 f2 => ?_, fun q H2 ey R2 f2 => ?_⟩
      · have re := (x1 y ey).trans (r_set (x := y) (y := x) (t := { s with st := y :: s.st, place := s.place + e.code.length }) h2.one B.last (by rw [B.st]))
        have nle := B.inn.ok.nm.len
        push_cast [R2.go B.last, f2.tu _ _ ha, R2.nm]
        refine ⟨bigL (by rw [kvs_length]; omega), fun H3 M3 => ?_⟩
        have hr := R2.go B.last
        refine k H3 _ re (fun _ => ⟨by simp only [Un.len, Sm.hs, List.length_append, Ex.hs_len, len1]; omega, rfl⟩) ⟨⟨.non, ?_, by rw [B.last]; simp only [lastD, tp_non]⟩, by rw [M3.at_, putK_kvs], M3.k R2.said (ne_of R2.said R2.nm (by simp)), R2.ne⟩ ((f2.sub0).mu M3 (by simp))
        exact M3.k hr (ne_of hr R2.nm (by simp))
      · obtain ⟨st, pl, rx⟩ := x2 q ey
        obtain ⟨la, hr3, nl⟩ := R2.last_
        have nl' : (la = V.non) = False := by rw [nl]; simp
        push_cast [hr3, nl']
        exact k H2 _ rx nofun (R2.like rfl rfl rfl rfl) (f2.mono (by simp))
    | say e =>
      obtain ⟨a, ve, rfl, ha, te⟩ := tp_say hv
      have hat := B.at_
      simp only [Un.code, Sm.code] at hat
      obtain ⟨h1, h2⟩ := hat.split
      obtain ⟨x1, x2⟩ := Ex.reach (code := code) e s B.last h1
      push_cast [ha]
      refine st_seq ?_
      push_cast [ha]
      refine ⟨r, na, sd, s, ve, e, s.place, rfl, te, R, B.last, Nat.le_trans ok.2 (by decide), Nat.le_trans ok.2 (by decide), ok.1, B.inn.ok.nm, fun y H2 ey R2 f2 => ?_, fun q H2 ey R2 f2 => ?_⟩
      · have re := (x1 y ey).trans (r_say (x := y) (t := { s with st := y :: s.st, place := s.place + e.code.length }) h2.one B.last (by rw [B.st]))
        have bd := B.bd _ re
        simp only [List.length_append, len1] at bd
        have hr := R2.go B.last
        push_cast [hr, R2.said]
        refine ⟨bigL (by simp [vls]; omega), fun H3 M3 => ?_⟩
        refine k H3 _ re (fun _ => ⟨by simp only [Un.len, Sm.hs, List.length_append, Ex.hs_len, len1]; omega, rfl⟩) ⟨⟨.non, M3.k hr R2.ne, by rw [B.last]; simp only [lastD, tp_non]⟩, M3.k R2.nm (ne_of R2.nm R2.said (by simp)), by rw [M3.at_, vls_snoc], R2.ne⟩ ((f2.sub0).mu M3 (by simp))
      · obtain ⟨st, pl, rx⟩ := x2 q ey
        obtain ⟨la, hr3, nl⟩ := R2.last_
        have nl' : (la = V.non) = False := by rw [nl]; simp
        push_cast [hr3, nl']
        exact k H2 _ rx nofun (R2.like rfl rfl rfl rfl) (f2.mono (by simp))
    | ite e s1 s2 =>
      obtain ⟨a, ve, v1, v2, rfl, ha, te, ts1, ts2⟩ := tp_ite hv
      have w := iAt B.at_
      simp only [Un.dp, Sm.dp] at hd hd20
      obtain ⟨x1, x2⟩ := Ex.reach (code := code) e s B.last w.ex
      push_cast [ha]
      refine st_seq ?_
      push_cast [ha]
      refine ⟨r, na, sd, s, ve, e, s.place, rfl, te, R, B.last, Nat.le_trans ok.1.2 (by decide), Nat.le_trans ok.1.2 (by decide), ok.1.1, B.inn.ok.nm, fun y H2 ey R2 f2 => ?_, fun q H2 ey R2 f2 => ?_⟩
      · have un := r_unless (x := y) (t := { s with st := y :: s.st, place := s.place + e.code.length }) w.un B.last (by rw [B.st])
        have re := (x1 y ey).trans un
        have hr := R2.go B.last
        have ha2 := f2.tu _ _ ha
        push_cast [hr]
        refine ⟨y, rfl, fun H3 f3 => ?_⟩
        have R3 := R2.keep f3
        have ha3 := f3.tu _ _ ha2
        have f3' : Fr [] H H3 := f2.trans f3
        cases hy : y.so with
        | true =>
          simp only [hy, if_true] at re
          push_cast [ha3]
          refine ⟨ve, e, rfl, te.tups f3'.tu, Nat.le_trans ok.1.2 (by decide), fun H4 f4 => ?_⟩
          have R4 := R3.keep f4
          have ha4 := f4.tu _ _ ha3
          push_cast [ha4]
          refine ⟨r, na, sd, v1, .row s1, code, hts, { s with st := [], place := s.place + e.code.length + 1 }, ?_, (ts1.tups f3'.tu).tups f4.tu, R4.like rfl rfl rfl rfl, ⟨B.ty, re.in_ B.ty B.inn, B.last, rfl, w.yes, B.bd.reach re⟩, trivial, by simp only [Un.dp]; omega, by simp only [Un.dp]; omega, ok.2.1, fun H5 u ru hu R5 f5 => ?_⟩
          · simp only [Int.natCast_add]; rfl
          · have f5' := ((f3'.trans f4).sub0 (S := [r, na, sd])).trans f5
            cases hul : u.last with
            | some z => exact k H5 u (re.trans ru) (fun z => absurd z (by rw [hul]; simp)) R5 f5'
            | none =>
              obtain ⟨g1, g2⟩ := hu hul
              have hgo := r_go (t := u) (code := code) (q := s.place + Un.len (.st (.ite e s1 s2))) (by rw [g1]; exact w.go) hul
              exact k H5 _ ((re.trans ru).trans hgo) (fun _ => ⟨rfl, g2⟩) (R5.like rfl rfl rfl rfl) f5'
        | false =>
          simp only [hy, Bool.false_eq_true, if_false] at re
          push_cast [R3.go B.last, ha3]
          refine ⟨ve, e, rfl, te.tups f3'.tu, Nat.le_trans ok.1.2 (by decide), fun H4 f4 => ?_⟩
          have R4 := R3.keep f4
          have ha4 := f4.tu _ _ ha3
          push_cast [ha4]
          refine ⟨v1, .row s1, rfl, (ts1.tups f3'.tu).tups f4.tu, by simp only [Un.dp]; omega, ok.2.1, fun H5 f5 => ?_⟩
          have R5 := R4.keep f5
          have ha5 := f5.tu _ _ ha4
          push_cast [ha5]
          refine ⟨r, na, sd, v2, .row s2, code, hts, { s with st := [], place := s.place + e.code.length + (hsL s1).length + 2 }, ?_, ((ts2.tups f3'.tu).tups f4.tu).tups f5.tu, R5.like rfl rfl rfl rfl, ⟨B.ty, re.in_ B.ty B.inn, B.last, rfl, w.no, B.bd.reach re⟩, trivial, by simp only [Un.dp]; omega, by simp only [Un.dp]; omega, ok.2.2, fun H6 u ru hu R6 f6 => ?_⟩
          · simp only [Int.natCast_add, Un.len]; rfl
          · refine k H6 u (re.trans ru) (fun hul => ?_) R6 ((((f3'.trans f4).trans f5).sub0 (S := [r, na, sd])).trans f6)
            obtain ⟨g1, g2⟩ := hu hul
            refine ⟨?_, g2⟩
            rw [g1]
            simp only [Un.len, Sm.hs, List.length_append, Ex.hs_len, len1]
            omega
      · obtain ⟨st, pl, rx⟩ := x2 q ey
        obtain ⟨la, hr3, nl⟩ := R2.last_
        have nl' : (la = V.non) = False := by rw [nl]; simp
        push_cast [hr3, nl']
        exact k H2 _ rx nofun (R2.like rfl rfl rfl rfl) (f2.mono (by simp))

theorem fin_at (p : List Sm) : (progC p)[(hsL p).length]? = some .fin := by
  unfold progC
  rw [hsL_len p 0]
  simp
theorem rd_L_walked {K : PySem.W.Frag} {vs : List V} {H : Hp} {Q : VK} {E : XK} (h : sp_L_walked vs H Q E) : t_L_walked K { nx := fun _ H' => Q .non H', rt := Q } (start ["_", "_", "_", "_"] vs) H := by
  obtain ⟨v, p, a, m, most, rfl, hv, ⟨ok, hd, hc⟩, ha, mo, bd, k⟩ := h
  show t_L_walked K _ [some v, some (.ref a), some (.int most), none] H
  have T := prog_ty ok
  unfold t_L_walked; refine st_seq ?_
  push_cast [ha]
  intro na H1 A1
  refine ⟨(by simp only [List.length_cons, List.length_nil]; decide), fun sd H2 A2 => ⟨(by simp only [List.length_cons, List.length_nil]; decide), fun r H3 A3 => ?_⟩⟩
  have nsd : H sd = none := A1.fr (S := []) |>.free A2.new (by simp)
  have R3 : RunAt H3 r na sd (begS m most) := ⟨⟨.non, A3.at_, by simp only [begS, lastD, tp_non]⟩, A3.k (A2.k A1.at_), A3.k A2.at_, fun e => ne_of_none A2.at_ A3.new e.symm⟩
  have F3 : Fr [] H H3 := (A1.fr.al A2).al A3
  have nr : H r = none := ((A1.fr (S := [])).al A2).free A3.new (by simp)
  unfold t_L_walked_1; refine st_seq ?_
  push_cast
  refine ⟨r, na, sd, v, .row p, progC p, _, begS m most, rfl, hv.tups F3.tu, R3, ⟨T, beg_in T mo, rfl, rfl, At.app _ _, bd⟩, trivial, by simp only [Un.dp]; omega, by simp only [Un.dp]; omega, ok, fun H4 u ru hu R4 f4 => ?_⟩
  have drop : ∀ {H' : Hp}, Fr [r, na, sd] H3 H' → Fr [] H H' := fun f => ((((F3.sub0 (S := [r, na, sd])).trans f).drop nr).drop A1.new).drop nsd
  unfold t_L_walked_2; refine st_seq ?_
  obtain ⟨la, hr, nl⟩ := R4.last_
  push_cast [hr]
  cases hul : u.last with
  | none =>
    have nl' : (la = V.non) = True := by rw [nl, hul]; simp
    push_cast [nl']
    obtain ⟨g1, g2⟩ := hu hul
    have re := ru.snoc hul
    rw [step_at (r := .fin) (by rw [g1]; simp only [begS, Nat.zero_add, Un.len]; exact fin_at p)] at re
    unfold stepR at re
    simp only at re
    refine ⟨(by simp only [List.length_cons, List.length_nil]; decide), fun q H5 A5 => ?_⟩
    push_cast [A5.k hr]
    intro H6 M6
    push_cast [M6.at_]
    refine ⟨(by simp only [List.length_cons, List.length_nil]; decide), fun t H7 A7 => ?_⟩
    have ne1 := ne_of (A5.k R4.nm) (A5.k hr) (by simp)
    refine k t na sd (.ref q) { u with last := some .done } H7 re (by simp) A7.at_ (A7.k (M6.k (A5.k R4.nm) ne1)) (A7.k (M6.k (A5.k R4.said) R4.ne.symm)) (.tup (A7.k (M6.tu _ _ A5.at_)) (.cons (.str _) .nil)) (drop (((f4.al A5).mu M6 (by simp)).al A7)) A1.new nsd
  | some l =>
    have nl' : (la = V.non) = False := by rw [nl, hul]; simp
    push_cast [nl']
    refine ⟨(by simp only [List.length_cons, List.length_nil]; decide), fun t H7 A7 => ?_⟩
    obtain ⟨la', hr', hla⟩ := R4.run
    rw [hr] at hr'
    cases hr'
    exact k t na sd la u H7 ru (by rw [hul]; simp) A7.at_ (A7.k R4.nm) (A7.k R4.said) (hla.tups A7.tu) (drop (f4.al A7)) A1.new nsd
def WalkInv (c : CA) (code : List Rw) (hts : List Nat) (m0 : Nms) (most : Int) (H0 : Hp) (vc va : V) (o na sd : Addr) (k : Nat) (σ : L2.St) (H : Hp) : Prop := ∃ (sk : Addr) (s : MS), σ = [some vc, some va, some (.int most), some (.ref o)] ∧ StAt c H o na sk sd s ∧ Reach code (begS m0 most) s ∧ In code hts 0 s ∧
  (s.last = none → 0 ≤ s.left ∧ mu code s < k) ∧ H0 sk = none ∧ Fr [o, na, sd] H0 H
theorem rd_walked {K : PySem.W.Frag} {c : CA} {vs : List V} {H : Hp} {Q : VK} {E : XK} (h : sp_walked c vs H Q E) : t_walked K c { nx := fun _ H' => Q .non H', rt := Q } (start ["_", "_", "_", "_"] vs) H := by
  obtain ⟨v, code, hts, a, m, most, rfl, hv, T, ha, mo, m0, bd, k⟩ := h
  show t_walked K c _ [some v, some (.ref a), some (.int most), none] H
  unfold t_walked; refine st_seq ?_
  push_cast
  intro o dx H1 A1
  refine ⟨o, dx, a, m, most, rfl, A1.at_, A1.k ha, ne_of_none ha A1.new, fun na sk sd H2 n1 n2 n3 S2 f2 => ⟨rfl, ?_⟩⟩
  have F2 : Fr [o] H H2 := A1.fr.trans f2
  have on : H o = none := A1.new
  have nn : ∀ x, H1 x = none → H x = none := fun x hx => A1.fr (S := []) |>.free hx (by simp)
  unfold t_walked_1; refine st_seq ?_
  refine ⟨WalkInv c code hts m most H v (.ref a) o na sd, ⟨_, sk, begS m most, rfl, S2, .refl _, beg_in T mo, fun _ => ⟨m0, Nat.lt_succ_self _⟩, nn _ n2, F2.mono (by simp)⟩, ?_⟩
  rintro kk σ H3 ⟨sk', s, rfl, S, re, ii, cm, nsk, f⟩
  obtain ⟨dx3, la, ho, hla⟩ := S.ins
  simp only [tTest, tOp, xFld, tVar, tC, rIsN]
  refine ⟨_, rfl, o, dx3, _, la, rfl, ho, st_last, trivial, _, rfl, ?_⟩
  rw [lastN hla]
  cases hl : s.last with
  | none =>
    obtain ⟨l0, mk⟩ := cm hl
    refine iteT ⟨fun σ' H' => ∃ m', m' < kk ∧ WalkInv c code hts m most H v (.ref a) o na sd m' σ' H', fun _ _ h => h, ?_⟩
    have sm := ii.small T
    have sb := bd s re
    push_cast
    refine ⟨v, code, o, na, sk', sd, s, rfl, hv.tups f.tu, S, ii.ok, ii.fit T, by omega, sb, fun H4 sk4 S4 o4 f4 => ?_⟩
    have f4' : Fr [o, na, sd] H H4 := by
      refine (f.own (T := [o, na, sk', sd]) ?_ f4)
      intro x hx
      simp only [List.mem_cons, List.not_mem_nil, or_false] at hx ⊢
      rcases hx with rfl | rfl | rfl | rfl <;> simp [nsk]
    refine ⟨mu code s, mk, sk4, step code s, rfl, S4, re.snoc hl, ii.step T, fun hl4 => ?_, ?_, f4'⟩
    · obtain ⟨g1, g2⟩ := mu_step T ii l0 hl4
      exact ⟨g2, g1⟩
    · rcases o4 with e | e
      · rw [e]; exact nsk
      · have sko : sk4 ∉ [o, na, sd] := by
          have th := S.there
          intro hx
          simp only [List.mem_cons, List.not_mem_nil, or_false] at hx
          rcases hx with h | h | h
          · exact th o (by simp) (by rw [← h]; exact e)
          · exact th na (by simp) (by rw [← h]; exact e)
          · exact th sd (by simp) (by rw [← h]; exact e)
        exact f.free e sko
  | some l =>
    refine iteF ?_
    push_cast [ho, st_said, st_last, st_names]
    refine ⟨(by simp only [List.length_cons, List.length_nil]; decide), fun t H4 A4 => ?_⟩
    exact k t na sd la s H4 re (by rw [hl]; simp) A4.at_ (A4.k S.nm) (A4.k S.said) (hla.tups A4.tu) ((((f.al A4).drop on).drop (nn _ n1)).drop (nn _ n3))

def limV (L : Lim) : List V := [.int (L.hot : Nat), .int (L.pat : Nat), .int (L.room : Nat)]
/-- a program and a count within the bounds -/
structure Gv (p : List Sm) (most : Int) : Prop where
  ok : PrOk p
  m0 : 0 ≤ most
  bd : (most.toNat + 2) * cntL p + 1 < 8000000
def sp_L_given : Sp := fun vs H Q _ => ∃ (b l : Addr), vs = [.ref b, .int 61] ∧ BoxAt H b l ∧ ∀ (t la : Addr) (v : V) (p : List Sm) (most : Int) (L : Lim) H', H' t = some (.tup [v, .int most, .ref la]) → H' la = some (.tup (limV L)) → Tp H' (rowD p) v → Gv p most → L.room ≤ 200 → BoxAt H' b l → Fr [b, l] H H' → Q (.ref t) H'
theorem len_L_given (vs : List V) (H : Hp) (Q : VK) (E : XK) (h : sp_L_given vs H Q E) : vs.length = 2 := by
  obtain ⟨_, _, rfl, _⟩ := h
  rfl
/-- _law_given from 3 -/
def t_L_given_3 (K : PySem.W.Frag) : TS :=
  (tSeq (tIfS (tTest (tOp rEq (tCall sp_L_take [] E0 (tCons (tVar 0) (tCons (tC (.int 8)) tNil))) (tC (.int 1)))) (tSeq (tAsg (tCall sp_L_counted [] E0 (tCons (tCall (sp_L_row 8) [] E0 (tCons (tVar 0) (tCons (tC (.int 1)) (tCons (tOp (rI0 fun i j => .int (i + j)) (tC (.int 1)) (tCall sp_L_take [] E0 (tCons (tVar 0) (tCons (tC (.int 2)) tNil)))) tNil)))) (tCons (tCall sp_L_take [] E0 (tCons (tVar 0) (tCons (tC (.int 2001)) tNil))) tNil))) (gName 2))
    (tSeq (tAsg (tCall sp_L_take [] E0 (tCons (tVar 0) (tCons (tC (.int 5001)) tNil))) (gName 3))
    (tAsg (xTup (tCons (tOp (rI0 fun i j => .int (i + j)) (tC (.int 1)) (tCall sp_L_take [] E0 (tCons (tVar 0) (tCons (tC (.int 40)) tNil)))) (tCons (tCall sp_L_take [] E0 (tCons (tVar 0) (tCons (tC (.int 21)) tNil))) (tCons (tOp (rI0 fun i j => .int (i + j)) (tC (.int 1)) (tCall sp_L_take [] E0 (tCons (tVar 0) (tCons (tC (.int 200)) tNil)))) tNil)))) (gName 4)))) tNext)
    (tRet (xTup (tCons (tVar 2) (tCons (tVar 3) (tCons (tVar 4) tNil))))))

/-- _law_given from 2 -/
def t_L_given_2 (K : PySem.W.Frag) : TS :=
  tSeq (tAsg (xTup (tCons (tOp (rI0 fun i j => .int (i + j)) (tC (.int 1)) (tCall sp_L_take [] E0 (tCons (tVar 0) (tCons (tC (.int 6)) tNil)))) (tCons (tCall sp_L_take [] E0 (tCons (tVar 0) (tCons (tC (.int 4)) tNil))) (tCons (tOp (rI0 fun i j => .int (i + j)) (tC (.int 1)) (tCall sp_L_take [] E0 (tCons (tVar 0) (tCons (tC (.int 60)) tNil)))) tNil)))) (gName 4)) (t_L_given_3 K)

/-- _law_given from 1 -/
def t_L_given_1 (K : PySem.W.Frag) : TS :=
  tSeq (tAsg (tCall sp_L_take [] E0 (tCons (tVar 0) (tCons (tVar 1) tNil))) (gName 3)) (t_L_given_2 K)

/-- _law_given -/
def t_L_given (K : PySem.W.Frag) : TS :=
  tSeq (tAsg (tCall sp_L_program [] E0 (tCons (tVar 0) (tCons (tC (.int 3)) tNil))) (gName 2)) (t_L_given_1 K)

theorem lim_of {x y z : Int} (hx : 0 ≤ x) (hy : 0 ≤ y) (hz : 0 ≤ z) (h : z ≤ 200) : ∃ L : Lim, limV L = [.int x, .int y, .int z] ∧ L.room ≤ 200 := by
  refine ⟨⟨x.toNat, y.toNat, z.toNat⟩, ?_, by simp only; omega⟩
  unfold limV
  simp only
  rw [Int.toNat_of_nonneg hx, Int.toNat_of_nonneg hy, Int.toNat_of_nonneg hz]
theorem rd_L_given {K : PySem.W.Frag} {vs : List V} {H : Hp} {Q : VK} {E : XK} (h : sp_L_given vs H Q E) : t_L_given K { nx := fun _ H' => Q .non H', rt := Q } (start ["_", "_", "_", "_", "_"] vs) H := by
  obtain ⟨b, l, rfl, B, k⟩ := h
  show t_L_given K _ [some (.ref b), some (.int 61), none, none, none] H
  unfold t_L_given; refine st_seq ?_
  push_cast
  refine ⟨b, l, rfl, B, fun p v H1 ok hd hc tp B1 f1 => ?_⟩
  unfold t_L_given_1; refine st_seq ?_
  push_cast
  refine ⟨b, l, 61, rfl, B1, by decide, by decide, fun most H2 m0 m1 B2 f2 => ?_⟩
  replace tp := tp.tups f2.tu
  have gv : Gv p most := ⟨⟨ok, by omega, by omega⟩, m0, Nat.lt_of_le_of_lt (Nat.add_le_add_right (Nat.mul_le_mul (show most.toNat + 2 ≤ 62 by omega) hc) 1) (by decide)⟩
  unfold t_L_given_2; refine st_seq ?_
  push_cast
  refine ⟨b, l, 6, rfl, B2, by decide, by decide, fun x1 H3 a0 a1 B3 f3 => ⟨x1, rfl, ?_⟩⟩
  refine ⟨b, l, 4, rfl, B3, by decide, by decide, fun x2 H4 b0 b1 B4 f4 => ?_⟩
  refine ⟨b, l, 60, rfl, B4, by decide, by decide, fun x3 H5 c0 c1 B5 f5 => ⟨x3, rfl, (by simp only [List.length_cons, List.length_nil]; decide), fun la H6 A6 => ?_⟩⟩
  have F6 : Fr [b, l] H2 H6 := ((f3.trans f4).trans f5).al A6
  have B6 := B5.keep A6.fr
  replace tp := tp.tups F6.tu
  obtain ⟨L, eL, rL⟩ := lim_of (x := 1 + x1) (y := x2) (z := 1 + x3) (by omega) b0 (by omega) (by omega)
  have hla : H6 la = some (.tup (limV L)) := by rw [eL]; exact A6.at_
  have F0 : Fr [b, l] H H6 := (f1.trans f2).trans F6
  unfold t_L_given_3; refine st_seq ?_
  push_cast
  refine ⟨b, l, 8, rfl, B6, by decide, by decide, fun r H7 r0 r1 B7 f7 => ?_⟩
  push_cast
  refine i2 (fun _ => ?_) fun _ => ?_
  · refine st_seq ?_
    push_cast
    refine ⟨b, l, 2, rfl, B7, by decide, by decide, fun q1 H8 g0 g1 B8 f8 => ⟨q1, rfl, ?_⟩⟩
    obtain ⟨mm, hmm⟩ : ∃ mm : Nat, 1 + q1 = mm := ⟨(1 + q1).toNat, by omega⟩
    rw [hmm]
    refine ⟨b, l, 1, mm, rfl, B8, by decide, by omega, fun p' v' H9 ok' hd' hc' tp' B9 f9 => ?_⟩
    have hc2 : cntL p' ≤ 136 := Nat.le_trans hc' (by simp [rowC, stC])
    refine ⟨b, l, 2001, rfl, B9, by decide, by decide, fun tn H10 t0 t1 B10 f10 => ?_⟩
    refine ⟨v', tn, p', rfl, tp'.tups f10.tu, by omega, fun v2 H11 tp2 f11 => ?_⟩
    have B11 := B10.keep f11
    refine st_seq ?_
    push_cast
    refine ⟨b, l, 5001, rfl, B11, by decide, by decide, fun most2 H12 s0 s1 B12 f12 => ?_⟩
    replace tp2 := tp2.tups f12.tu
    have ok2 : okL 5 (countP tn p') := ⟨⟨nm_d, ⟨by omega, by omega⟩, by simp only [Ex.dep]; decide⟩, ⟨⟨⟨nm_d, by decide⟩, okL_append ok' ⟨⟨nm_d, ⟨nm_d, by decide, by decide⟩, by decide⟩, trivial⟩⟩, trivial⟩⟩
    have hd2 : dpL (countP tn p') ≤ 12 := by simp only [countP, dpL, Sm.dp, dpL_snoc]; omega
    have hc3 : cntL (countP tn p') ≤ 139 := by simp only [countP, cntL, Sm.cnt, cntL_snoc]; omega
    have gv2 : Gv (countP tn p') most2 := ⟨⟨ok2, hd2, by omega⟩, s0, Nat.lt_of_le_of_lt (Nat.add_le_add_right (Nat.mul_le_mul (show most2.toNat + 2 ≤ 5002 by omega) hc3) 1) (by decide)⟩
    refine ⟨b, l, 40, rfl, B12, by decide, by decide, fun y1 H13 d0 d1 B13 f13 => ⟨y1, rfl, ?_⟩⟩
    refine ⟨b, l, 21, rfl, B13, by decide, by decide, fun y2 H14 e0 e1 B14 f14 => ?_⟩
    refine ⟨b, l, 200, rfl, B14, by decide, by decide, fun y3 H15 h0 h1 B15 f15 => ⟨y3, rfl, (by simp only [List.length_cons, List.length_nil]; decide), fun lb H16 A16 => ?_⟩⟩
    obtain ⟨L2, eL2, rL2⟩ := lim_of (x := 1 + y1) (y := y2) (z := 1 + y3) (by omega) e0 (by omega) (by omega)
    have F16 : Fr [b, l] H12 H16 := ((f13.trans f14).trans f15).al A16
    replace tp2 := tp2.tups F16.tu
    have B16 := B15.keep A16.fr
    push_cast
    refine ⟨(by simp only [List.length_cons, List.length_nil]; decide), fun t H17 A17 => ?_⟩
    refine k t lb v2 (countP tn p') most2 L2 H17 A17.at_ (by rw [eL2]; exact A17.k A16.at_) (tp2.tups A17.tu) gv2 rL2 (B16.keep A17.fr) ?_
    exact ((((((((F0.trans f7).trans f8).trans f9).trans f10).trans f11.sub0).trans f12).trans F16).al A17)
  · push_cast
    refine ⟨(by simp only [List.length_cons, List.length_nil]; decide), fun t H8 A8 => ?_⟩
    exact k t la v p most L H8 A8.at_ (A8.k (f7.tu _ _ hla)) ((tp.tups f7.tu).tups A8.tu) gv rL (B7.keep A8.fr) ((F0.trans f7).al A8)

/-! how often a program's rows tell -/
theorem Ex.no_say : ∀ e : Ex, e.code.filter isSay = []
  | .num _ => rfl
  | .text _ => rfl
  | .name _ => rfl
  | .op _ a b => by simp [Ex.code, List.filter_append, Ex.no_say a, Ex.no_say b, isSay]
mutual
theorem Sm.says_le : ∀ (s : Sm) (b : Nat), ((s.code b).filter isSay).length ≤ s.cnt
  | .say e, b => by simp [Sm.code, Sm.cnt, List.filter_append, Ex.no_say, isSay, List.filter_cons]
  | .set x e, b => by simp [Sm.code, Sm.cnt, List.filter_append, Ex.no_say, isSay]
  | .ite e s t, b => by
    have h1 := says_leL s (b + e.code.length + 1)
    have h2 := says_leL t (b + e.code.length + (codeL s (b + e.code.length + 1)).length + 2)
    simp only [Sm.code, Sm.cnt, List.filter_append, Ex.no_say, List.length_append]
    simp only [List.filter_cons, isSay, Bool.false_eq_true, if_false, List.filter_nil, List.length_nil]
    omega
  | .whl e s, b => by
    have h1 := says_leL s (b + e.code.length + 2)
    simp only [Sm.code, Sm.cnt, List.filter_append, Ex.no_say, List.length_append]
    simp only [List.filter_cons, isSay, Bool.false_eq_true, if_false, List.filter_nil, List.length_nil]
    omega
theorem says_leL : ∀ (l : List Sm) (b : Nat), ((codeL l b).filter isSay).length ≤ cntL l
  | [], b => by simp [codeL, cntL]
  | a :: r, b => by
    have h1 := Sm.says_le a b
    have h2 := says_leL r (b + (a.code b).length)
    simp only [codeL, cntL, List.filter_append, List.length_append]
    omega
end
theorem saysN_prog (p : List Sm) : saysN (progC p) ≤ cntL p := by
  have h := says_leL p 0
  unfold saysN says
  rw [List.take_length]
  unfold progC
  rw [List.filter_append, List.length_append]
  simp only [List.filter_cons, isSay, Bool.false_eq_true, if_false, List.filter_nil, List.length_nil]
  omega
theorem bd_prog {p : List Sm} {m : Nms} {most : Int} (ok : okL 5 p) (mo : NmOk m) (h0 : 0 ≤ most) (h : (most.toNat + 2) * cntL p + 1 < 8000000) : Bd (progC p) ⟨m, [], 0, most, [], none⟩ := by
  have T := prog_ty ok
  have i : In (progC p) (hsL p ++ [0]) 0 ⟨m, [], 0, most, [], none⟩ := ⟨⟨mo, fun v hv => (by cases hv), fun v hv => (by cases hv)⟩, 0, T.zero, rfl⟩
  refine bd_of T i h0 (Nat.lt_of_le_of_lt ?_ h)
  have hs := saysN_prog p
  have h1 : (most.toNat + 2) * saysN (progC p) ≤ (most.toNat + 2) * cntL p := Nat.mul_le_mul_left _ hs
  have h2 : (most.toNat + 1) * saysN (progC p) + saysN (progC p) = (most.toNat + 2) * saysN (progC p) := by rw [← Nat.succ_mul]
  have h3 : most.toNat * saysN (progC p) ≤ (most.toNat + 1) * saysN (progC p) := Nat.mul_le_mul_right _ (Nat.le_succ _)
  unfold phi
  simp only [List.length_nil]
  split <;> omega

theorem gv_bd {p : List Sm} {most : Int} {m : Nms} (g : Gv p most) (mo : NmOk m) : Bd (progC p) (begS m most) := bd_prog g.ok.1 mo g.m0 g.bd
theorem code_len {p : List Sm} (g : PrOk p) : (progC p).length ≤ 800000 := by
  have := code_bound (o := .row p) (b := 0) g.1 (by simp only [Un.cnt]; exact g.2.2)
  unfold progC
  simp only [List.length_append, List.length_cons, List.length_nil]
  simp only [Un.code] at this
  omega
/-- where the machine comes to: as plain rows do -/
theorem end_same {p : List Sm} {m0 : Nms} {most : Int} {hts : List Nat} {L : Lim} {s' : MS} {m : MC} (re : Reach (progC p) (begS m0 most) s') (hs : s'.last ≠ none) (g : MGood (progC p) hts (begS m0 most) L m) (hl : m.s.last ≠ none) : SameS s' m.s := by
  obtain ⟨τ, r, same⟩ := g.sim
  have : s' = τ := re.det hs r (by rw [same.last]; exact hl)
  rw [this]
  exact same
/-- what the law's own walk left -/
structure Due (H : Hp) (t na sd : Addr) (la : V) (s' : MS) : Prop where
  ht : H t = some (.tup [.ref sd, la, .ref na])
  hna : H na = some (.dK (kvs s'.names))
  hsd : H sd = some (.lst (vls s'.said))
  hla : Tp H (lastD s'.last) la
theorem Due.keep {H H' : Hp} {t na sd : Addr} {la : V} {s' : MS} {S : List Addr} (d : Due H t na sd la s') (f : Fr S H H') (h1 : na ∉ S) (h2 : sd ∉ S) : Due H' t na sd la s' := ⟨f.tu _ _ d.ht, f.keep _ _ d.hna h1, f.keep _ _ d.hsd h2, d.hla.tups f.tu⟩
theorem valV_mem {ks : List (Key × V)} (h : (ks.map (·.1)).Nodup) {q : Key × V} (hq : q ∈ ks) : valV ks q.1 = some q.2 := by
  induction ks with
  | nil => cases hq
  | cons p r ih =>
    rw [List.map_cons, List.nodup_cons] at h
    rcases List.mem_cons.mp hq with rfl | hq
    · exact valV_pos rfl
    · rw [valV_neg, ih h.2 hq]
      intro e
      exact h.1 (by rw [e]; exact List.mem_map_of_mem hq)
theorem eqX_kin {H : Hp} {a : Addr} {n : Nat} {gk : Nat → Option (Kd × Kd)} {ks : List (Key × V)} (K : KinAt H a gk) (ha : H a = some (.dK ks)) (l : KLt n ks) : EqX ks ks := by
  obtain ⟨ks', h1, h2⟩ := K.dic
  rw [ha] at h1
  cases h1
  refine ⟨rfl, fun q hq => ⟨valV_mem l.1 hq, .inr ?_⟩⟩
  obtain ⟨p, _, e⟩ := l.2 _ (List.mem_map_of_mem hq)
  have hv := valV_mem l.1 hq
  replace e : q.1 = nK p := e
  rw [e] at hv
  cases g : gk p with
  | none => rw [(h2 p).1 g] at hv; cases hv
  | some xy =>
    obtain ⟨v, h3, h4⟩ := (h2 p).2 xy.1 xy.2 g
    rw [h3] at hv
    cases hv
    rw [tp_tup] at h4
    obtain ⟨a, _, e, _⟩ := h4
    exact ⟨a, e⟩
theorem eqX_way {H : Hp} {a : Addr} {n : Nat} {gw : Nat → Option Bool} {ks : List (Key × V)} (K : WayAt H a gw) (ha : H a = some (.dK ks)) (l : KLt n ks) : EqX ks ks := by
  obtain ⟨ks', h1, h2⟩ := K.dic
  rw [ha] at h1
  cases h1
  refine ⟨rfl, fun q hq => ⟨valV_mem l.1 hq, .inl ?_⟩⟩
  obtain ⟨p, _, e⟩ := l.2 _ (List.mem_map_of_mem hq)
  have hv := valV_mem l.1 hq
  replace e : q.1 = nK p := e
  rw [e, h2 p] at hv
  cases g : gw p with
  | none => rw [g] at hv; cases hv
  | some b =>
    rw [g] at hv
    have : V.bl b = q.2 := Option.some.inj hv
    rw [← this]
    rfl
/-- Machine.hint -/
def t_Machine_hint (K : PySem.W.Frag) (c : CA) : TS :=
  (xSet c.machine (tVar 0) (xMake c.notes (sp_Notes___init__ c) (tCons (tVar 1) (tCons (tVar 2) tNil))) ("notes" : Str))

theorem rd_Machine_hint {K : PySem.W.Frag} {c : CA} {vs : List V} {H : Hp} {Q : VK} {E : XK} (h : sp_Machine_hint c vs H Q E) : t_Machine_hint K c { nx := fun _ H' => Q .non H', rt := Q } (start ["_", "_", "_"] vs) H := by
  obtain ⟨A, n, L, m, ka, wa, gk, gw, rfl, M, KA, WA, ⟨kks, hka, lk⟩, ⟨wws, hwa, lw⟩, k⟩ := h
  show t_Machine_hint K c _ [some (.ref A.me), some (.ref ka), some (.ref wa)] H
  obtain ⟨dx, hme⟩ := id M.ins
  unfold t_Machine_hint
  push_cast
  intro no dn H1 A1
  refine ⟨no, dn, ka, wa, kks, wws, rfl, A1.at_, A1.k hka, A1.k hwa, fun ka' wa' ta' dn' H2 n1 n2 n3 e1 e2 e3 hno hka' hwa' hta f2 => ⟨rfl, ?_⟩⟩
  have F2 : Fr [] H H2 := Fr.drop (A1.fr.trans f2) A1.new
  have g1 : ∀ x, H1 x = none → H x = none := fun x hx => A1.fr (S := []) |>.free hx (by simp)
  have M2 := M.keep0 F2
  have th := M.there
  obtain ⟨dx2, hme2⟩ := id M2.ins
  push_cast [hme2]
  refine ⟨mm_len, fun H3 M3 => ?_⟩
  have hme3 := M3.at_
  rw [mp_notes (ka' := ka') (wa' := wa') (ta' := ta')] at hme3
  have f3 : Fr [A.me] H2 H3 := M3.fr (by simp)
  have fresh : ∀ x, H x = none → ∀ y ∈ A.fp, y ≠ x := fun x hx y hy e => th y hy (by rw [e]; exact hx)
  have nome : no ∉ [A.me] := fun hz => fresh no A1.new A.me (by simp [MMA.fp]) (List.mem_singleton.mp hz).symm
  have kame : ka' ∉ [A.me] := fun hz => fresh ka' (g1 _ n1) A.me (by simp [MMA.fp]) (List.mem_singleton.mp hz).symm
  have wame : wa' ∉ [A.me] := fun hz => fresh wa' (g1 _ n2) A.me (by simp [MMA.fp]) (List.mem_singleton.mp hz).symm
  have tame : ta' ∉ [A.me] := fun hz => fresh ta' (g1 _ n3) A.me (by simp [MMA.fp]) (List.mem_singleton.mp hz).symm
  obtain ⟨kks', hk', vk⟩ := KA.dic
  rw [hka] at hk'
  cases hk'
  obtain ⟨wws', hw', vw⟩ := WA.dic
  rw [hwa] at hw'
  cases hw'
  have F3 : Fr [A.me] H H3 := F2.sub0.trans f3
  have dj := M2.dj
  obtain ⟨dm, dmn⟩ := M2.dm
  have N3 : NtAt c H3 no ka' wa' ta' n ⟨gk, gw, fun _ => 0⟩ := ⟨⟨dn', f3.keep _ _ hno nome⟩, ⟨kks, f3.keep _ _ hka' kame, fun p => ⟨(vk p).1, fun x y e => by
    obtain ⟨v, h3, h4⟩ := (vk p).2 x y e
    exact ⟨v, h3, h4.tups F3.tu⟩⟩⟩, ⟨wws, f3.keep _ _ hwa' wame, vw⟩, ⟨[], f3.keep _ _ hta tame, fun p => rfl⟩, ⟨kks, f3.keep _ _ hka' kame, lk⟩, ⟨wws, f3.keep _ _ hwa' wame, lw⟩, ⟨[], f3.keep _ _ hta tame, .nil _⟩, e1, e2, e3⟩
  refine k { A with no := no, ka := ka', wa := wa', ta := ta' } H3 rfl rfl ?_ ⟨⟨dx2, hme3⟩, M2.st.keep f3 (fun x hx hz => dj x hx (by rw [List.mem_singleton.mp hz]; simp)), N3, M2.rdy.keep f3 (fun hz => dm A.me (by simp) (by rw [← List.mem_singleton.mp hz]; simp)), M2.fel.keep f3 (fun hz => dm A.me (by simp) (by rw [← List.mem_singleton.mp hz]; simp)), M2.lr.keep f3 (fun hz => dm A.me (by simp) (by rw [← List.mem_singleton.mp hz]; simp)), M2.lf.keep f3 (fun hz => dm A.me (by simp) (by rw [← List.mem_singleton.mp hz]; simp)), ?_⟩ F3
  · intro x hx
    simp only [MMA.fp, List.mem_cons, List.not_mem_nil, or_false] at hx ⊢
    rcases hx with rfl | rfl | rfl | rfl | rfl | rfl | rfl | rfl | rfl | rfl | rfl
    · simp
    · simp
    · simp
    · simp
    · simp
    · exact .inr A1.new
    · exact .inr (g1 _ n1)
    · exact .inr (g1 _ n2)
    · exact .inr (g1 _ n3)
    · simp
    · simp
  · have nd := M.nd
    simp only [List.nodup_cons, List.mem_cons, List.not_mem_nil, or_false, not_or, not_false_eq_true, List.nodup_nil, and_true] at nd ⊢
    obtain ⟨⟨x1, x2, x3, x4, x5⟩, ⟨y1, y2, y3, y4⟩, ⟨z1, z2, z3⟩, ⟨w1, w2⟩, u1⟩ := nd
    have f1 := fresh ka' (g1 _ n1)
    have f2' := fresh wa' (g1 _ n2)
    have f3' := fresh ta' (g1 _ n3)
    exact ⟨⟨f1 A.na (by simp [MMA.fp]), f2' A.na (by simp [MMA.fp]), f3' A.na (by simp [MMA.fp]), x4, x5⟩, ⟨e1, e2, (f1 A.ra (by simp [MMA.fp])).symm, (f1 A.fa (by simp [MMA.fp])).symm⟩, ⟨e3, (f2' A.ra (by simp [MMA.fp])).symm, (f2' A.fa (by simp [MMA.fp])).symm⟩, ⟨(f3' A.ra (by simp [MMA.fp])).symm, (f3' A.fa (by simp [MMA.fp])).symm⟩, u1⟩

/-! more rules: dicts beside each other, their values data -/
def EqT (K : PySem.W.Frag) (H : Hp) (ks ls : List (Key × V)) : Prop := ks.length = ls.length ∧ ∀ p ∈ ks, ∃ u d, valV ls p.1 = some u ∧ Dp K H p.2 d ∧ Dp K H u d ∧ d.canLay0 = true ∧ d.depth ≤ 3 ∧ PyData.eqv d d = true
def rNeDT (K : PySem.W.Frag) : R2 := fun x y H Q => ∃ a b ks ls, x = .ref a ∧ y = .ref b ∧ H a = some (.dK ks) ∧ H b = some (.dK ls) ∧ EqT K H ks ls ∧ Q (.bl false) H
theorem hits_T {X : Cx} {pins : List (Addr × Obj)} {σ : L2.St} {H : Hp} {s : Shared} (I : Inv X pins σ H s) {A : Around} (hu : A.units + 3 < cLine) {ls : List (Key × V)} {vb : List (Key × Value)} (rb : KV ls vb) {ks : List (Key × V)} {va : List (Key × Value)} (ra : KV ks va) :
    (∀ p ∈ ks, ∃ u d, valV ls p.1 = some u ∧ Dp X.K H p.2 d ∧ Dp X.K H u d ∧ d.canLay0 = true ∧ d.depth ≤ 3 ∧ PyData.eqv d d = true) → PySem.W.KeqHits A s vb va true := by
  unfold KV at ra
  induction ra with
  | nil => intro _; exact .nil
  | @cons p q ps qs h t ih =>
    intro hp
    obtain ⟨h1, h2⟩ := h
    obtain ⟨u, d, e, d1, d2, c1, c2, c3⟩ := hp p List.mem_cons_self
    have rr : RelO (some u) (valueAt vb p.1) := by rw [← e]; exact rb.val p.1
    obtain ⟨y, hy, ry⟩ := rr.some_of
    obtain ⟨k, v⟩ := q
    have h1' : p.1 = k := h1
    rw [h1'] at hy
    obtain ⟨as, r1⟩ := Dp.reads I d _ _ d1 h2
    obtain ⟨bs, r2⟩ := Dp.reads I d _ _ d2 ry
    have eq := SeqAt.eqAt_reads d d A s _ _ as bs r1 r2 c1 c1 (by rw [Nat.min_self]; omega)
    rw [c3] at eq
    show PySem.W.KeqHits A s vb ((k, v) :: qs) (true && true)
    exact .hit hy eq (ih fun p' hm => hp p' (List.mem_cons_of_mem _ hm))
theorem op_neDT {X : Cx} (hu : X.A.units + 64 < cLine) : OpR X (compareOp .NotEq) (rNeDT X.K) := by
  intro pins s σ H x y v u Q I rx ry h
  obtain ⟨a, b, ks, ls, rfl, rfl, ea, eb, ⟨hlen, hp⟩, q⟩ := h
  obtain rfl : v = Value.ref a := rx
  obtain rfl : u = Value.ref b := ry
  obtain ⟨_, ya, va, ra, da⟩ := (show ObjOk X.prog X.w H s.heap a (.dK ks) from I.hok a _ ea)
  obtain ⟨_, yb, vb, rb, db⟩ := (show ObjOk X.prog X.w H s.heap b (.dK ls) from I.hok b _ eb)
  have hl : va.length = vb.length := by rw [← ra.length, ← rb.length]; exact hlen
  exact PySem.W.keq_ne (knd := mixKind X.prog X.w) (r := true) ya yb da db (by omega) (fun _ => hits_T I (by show X.A.units + 1 + 3 < cLine; omega) rb ra hp) (fin_bl I q (by simp [hl]))
theorem kv_mem {ks : List (Key × V)} {va : List (Key × Value)} (ra : KV ks va) : ∀ {k : Key} {v : Value}, (k, v) ∈ va → ∃ p ∈ ks, p.1 = k ∧ RelV p.2 v := by
  unfold KV at ra
  induction ra with
  | nil => intro k v h; cases h
  | @cons p q ps qs h t ih =>
    intro k v hm
    rcases List.mem_cons.mp hm with e | hm
    · subst e
      exact ⟨p, List.mem_cons_self, h.1, h.2⟩
    · obtain ⟨p', h1, h2⟩ := ih hm
      exact ⟨p', List.mem_cons_of_mem _ h1, h2⟩
theorem tree_D {X : Cx} {pins : List (Addr × Obj)} {σ : L2.St} {H : Hp} {s : Shared} (I : Inv X pins σ H s) {a b : Addr} {ks ls : List (Key × V)} (ne : a ≠ b) (ea : H a = some (.dK ks)) (eb : H b = some (.dK ls)) (hk : EqX ks ls) : PySem.W.EqTree X.prog X.w s 2 (.ref a) (.ref b) true := by
  obtain ⟨_, ya, va, ra, da⟩ := (show ObjOk X.prog X.w H s.heap a (.dK ks) from I.hok a _ ea)
  obtain ⟨_, yb, vb, rb, db⟩ := (show ObjOk X.prog X.w H s.heap b (.dK ls) from I.hok b _ eb)
  have hl : va.length = vb.length := by rw [← ra.length, ← rb.length]; exact hk.1
  have t := PySem.W.EqTree.dicts (knd := mixKind X.prog X.w) (n := 1) (e := fun _ => true) ne ya yb da db (fun k v y hm hv => by
    obtain ⟨p, hp, e1, r1⟩ := kv_mem ra hm
    obtain ⟨e2, f⟩ := hk.2 p hp
    have rr : RelO (some p.2) (valueAt vb p.1) := by rw [← e2]; exact rb.val p.1
    obtain ⟨y', hy', ry'⟩ := rr.some_of
    rw [e1, hv] at hy'
    cases hy'
    rcases f with f | ⟨c, ec⟩
    · exact .leaf fun A hu => eqAt_same r1 ry' f
    · rw [ec] at r1 ry'
      cases (show v = Value.ref c from r1)
      cases (show y = Value.ref c from ry')
      exact .same)
  have e : (va.length == vb.length && va.all fun p => (valueAt vb p.1).isSome && true) = true := by
    rw [hl]
    simp only [BEq.rfl, Bool.true_and, Bool.and_true, List.all_eq_true]
    intro q hq
    obtain ⟨p, hp, e1, r1⟩ := kv_mem ra (k := q.1) (v := q.2) hq
    obtain ⟨e2, f⟩ := hk.2 p hp
    have rr : RelO (some p.2) (valueAt vb p.1) := by rw [← e2]; exact rb.val p.1
    obtain ⟨y', hy', _⟩ := rr.some_of
    rw [← e1, hy']
    rfl
  rw [e] at t
  exact t
/-- two tuples of two dicts -/
def rEqTT : R2 := fun x y H Q => ∃ p q a b a' b' ks ls ks' ls', x = .ref p ∧ y = .ref q ∧ H p = some (.tup [.ref a, .ref b]) ∧ H q = some (.tup [.ref a', .ref b']) ∧ a ≠ a' ∧ b ≠ b' ∧ H a = some (.dK ks) ∧ H a' = some (.dK ks') ∧ H b = some (.dK ls) ∧ H b' = some (.dK ls') ∧ EqX ks ks' ∧ EqX ls ls' ∧ Q (.bl true) H
theorem vals2 {a b : Addr} {its : List Value} (h : Vals [V.ref a, V.ref b] its) : its = [.ref a, .ref b] := by
  cases h with
  | cons h1 h2 =>
    cases h2 with
    | cons h3 h4 =>
      cases h4
      rw [show _ = Value.ref a from h1, show _ = Value.ref b from h3]
theorem op_eqTT {X : Cx} (hu : X.A.units + 64 < cLine) : OpR X (compareOp .Eq) rEqTT := by
  intro pins s σ H x y v u Q I rx ry h
  obtain ⟨p, q, a, b, a', b', ks, ls, ks', ls', rfl, rfl, hp, hq, n1, n2, e1, e2, e3, e4, h1, h2, k⟩ := h
  obtain rfl : v = Value.ref p := rx
  obtain rfl : u = Value.ref q := ry
  obtain ⟨i1, v1, t1, _⟩ := I.tuple (SqT.of hp)
  obtain ⟨i2, v2, t2, _⟩ := I.tuple (SqT.of hq)
  have z1 := vals2 v1
  have z2 := vals2 v2
  subst z1 z2
  refine PySem.W.eq_tuplesT (n := 2) (e := fun _ => true) (show s.heap.IsTuple p _ from t1) (show s.heap.IsTuple q _ from t2) ?_ (by omega) ?_
  · intro j h1' h2'
    have hj : j = 0 ∨ j = 1 := by simp only [List.size_toArray, List.length_cons, List.length_nil] at h1'; omega
    rcases hj with rfl | rfl
    · exact tree_D I n1 e1 e2 h1
    · exact tree_D I n2 e3 e4 h2
  · exact ⟨.bl true, H, I, rfl, k⟩
/-- d[k], d perhaps locked -/
def rGetR : R2 := fun x y H Q => ∃ a kvs z v, x = .ref a ∧ y = .int z ∧ Rd H a (.dK kvs) ∧ valV kvs (.inl z) = some v ∧ Q v H
theorem pe_getR {X : Cx} {o i : Expr} {pos : Pos} {td ty : TE} (hu : X.A.units + 1 < cLine) (ho : PE X o td) (hi : PE X i ty) (hs : NoSl i) : PE X (.Subscript o i pos) (tOp rGetR td ty) :=
  opW (pe_dget hu (mo ho) (mo hi) hs) fun x y H Q ⟨a, kvs, z, v, e1, e2, h, g, q⟩ => ⟨a, v, e1, by subst e2; exact .inl ⟨kvs, .inl z, h, rfl, g.symm⟩, q⟩

/-! rules for exceptions of one's own -/
section
variable (P : Program) (w : World) (K : PySem.W.Frag) (mg : Str → Option Value) (base : Heap)
/-- the module's def x keeps sp; an exception may leave it -/
def OkX (k : Nat) (x : Str) (ps : List Str) (sp : Sp) : Prop :=
  ∃ f fd, FnOk P w K mg base (L2.CX P w) k f fd ps sp ∧ mg x = some (.ref f) ∧ PySem.W.keepIn K (.ref f) = true ∧ Binds K fd ps []
end
section
variable {P : Program} {w : World} {K : PySem.W.Frag} {mg : Str → Option Value} {base : Heap}
theorem OkX.mono {j k : Nat} {x : Str} {ps : List Str} {sp : Sp} (F : OkX P w K mg base j x ps sp) (h : j ≤ k) : OkX P w K mg base k x ps sp := by
  obtain ⟨f, fd, F, a, b, c⟩ := F
  exact ⟨f, fd, F.mono h, a, b, c⟩
theorem DefAt.okX {x : Str} {st : Stmt} {N ps : List Str} {k : Nat} {sp : Sp} (D : DefAt K mg x st) (S : FnScope N ps (defScope st))
    (hb : ∀ (kV doc pm : Value) (an : Option Addr) (cdv ct : Value) (us : List Value), us.length = ps.length → bindArgs (PySem.W.fnOf x x (defArgs st) (defBody st) (defScope st) .none kV doc pm an cdv ct) ⟨us, []⟩ = pure (ps.zip us))
    (len : ∀ vs H Q E, sp vs H Q E → vs.length = ps.length)
    (hbody : ∀ (f : Addr) (cdv : Value) (A : Around) (outer : List Env) (s : Shared) (H : Hp) (vs : List V) (Q : VK) (E : XK), Room k (A.deeper (envOfC x (defScope st) s.heap.objs.size f cdv)) → sp vs H Q E →
      ∃ t, PSs (cxOf (L2.CX P w) P w K mg base N x (defScope st) f cdv A outer s H E) (defBody st) t ∧ (HSz H → t { nx := fun _ H' => Q .non H', rt := Q } (start N vs) H)) : OkX P w K mg base (k + 1) x ps sp := by
  obtain ⟨f, fd, F, hm⟩ := D
  refine ⟨f, fd, F.ok S len fun cdv A outer s H vs Q E hr h => ?_, hm, F.kp, F.bindsN hb⟩
  obtain ⟨t, h1, h2⟩ := hbody f cdv A outer s H vs Q E hr h
  exact ⟨_, pssSz h1, h2⟩
end
section
variable {X : Cx} {k : Nat} {x : Str} {ps : List Str} {sp : Sp} {e : Expr} {es : List Expr} {t : TA} {p pos : Pos} {W : WX}
theorem pe_callX (F : OkX X.prog X.w X.K X.mg X.base k x ps sp) (hr : Room k X.A) (hg : Gl X x) (tk : Takes X W) (ha : PA X (e :: es) t) (hdb : (x == ("__debug__" : Str)) = false := by decide) (he : starEach (e :: es) X.env = (false, eval e X.env) :: starEach es X.env := by rfl) (hpl : (backTo pos (starEach es X.env)).any (·.1) = false := by rfl) :
    PE X (.Call (.Name x p) (e :: es) [] pos) (tCallS sp (WE W) t) := by
  obtain ⟨f, fd, F, hm, kp, b⟩ := F
  exact pe_callS F hr hg hm kp b (fun σ => passAt tk σ) ha hdb he hpl
theorem pss_never {b : List Stmt} : PSs X b tNever := ⟨fun _ _ _ _ _ _ h => h.elim⟩
/-- what is known may be used -/
def tIf (A : Prop) (t : TS) : TS := fun D σ H => A ∧ t D σ H
theorem pss_if {A : Prop} {b : List Stmt} {t : TS} (h : A → PSs X b t) : PSs X b (tIf A t) := ⟨fun pins s σ H D I ⟨a, q⟩ => (h a).run pins s σ H D I q⟩
end
/-- raise C('..') -/
def tRz (C : Addr) (W : WX) : TS := fun _ σ H => W (.ref C) none σ H
/-- what the head says of an own exception -/
structure ExD (K : PySem.W.Frag) (mg : Str → Option Value) (x : Str) (C : Addr) : Prop where
  q : PySem.W.excIn K C [.type "ValueError", .type "Exception", .type "BaseException", .type "object"] "ValueError.__new__" = true
  g : mg x = some (.ref C)
  k : PySem.W.keepIn K (.ref C) = true
  s : PySem.W.subIn K (.ref C) (.type "BaseException") = some true
  t : PySem.W.typeIn K (.ref C) = some (.type "type")
theorem ps_rz {X : Cx} {C : Addr} {W : WX} {x m : Str} {j : Nat} {p p2 pos pos2 : Pos} (E : ExD X.K X.mg x C) (hc : X.calm = true) (tk : Takes X W) (hg : Gl X x) (hdb : (x == ("__debug__" : Str)) = false := by decide) :
    PS X (.Raise (some (.Call (.Name x p) [.Constant (.str m) j p2] [] pos)) none pos2) (tRz C W) :=
  ps_raise hc tk (pmk_own PySem.F.excBase_ValueError E.q E.g E.k (raises_own E.s E.t) hg hdb)
/-- try: body; except x as (slot i): suite, for exceptions of the class D -/
def tTryAs (K : PySem.W.Frag) (c : Value) (i : Nat) (tb : WX → TS) (ts : Addr → Value → Option Addr → TS) : TS := fun D σ H => tb (wAs K c i ts (fun _ _ _ _ => False) D) D σ H
def iE (K : PySem.W.Frag) (D a : Addr) (i : Nat) (c : V) : TE := tCB (rIsE K D a) (tCons (tVar i) (tCons (tC c) tNil))
/-- range(lo, hi) -/
theorem forR2 {ta : TA} {tb : TS} {j : Nat} {σ : L2.St} {H : Hp} {D : Ends} {lo hi : Int} (hv : ∀ R : List V → Hp → Prop, R [.int lo, .int hi] H → ta σ H R) (b0 : -4611686018427387904 ≤ lo) (b1 : hi < 4611686018427387904) (b2 : lo ≤ hi) (Pv : Nat → L2.St → Hp → Prop) (h0 : Pv 0 σ H)
    (hs : ∀ (i : Nat) σ' H', lo + (i : Int) < hi → Pv i σ' H' → tb { D with nx := Pv (i + 1), ct := Pv (i + 1), bk := D.nx } (σ'.set j (some (.int (lo + (i : Int))))) H') (hd : ∀ σ' H', Pv (hi - lo).toNat σ' H' → D.nx σ' H') :
    tFor (iRng2 ta) (gName j) tb D σ H := by
  refine hv _ ⟨lo, hi, rfl, ⟨by omega, by omega, by omega, by omega⟩, for_it walk_range Pv h0 (fun _ _ _ _ _ => trivial) (fun i x σ1 H1 H2 hi' p y => ?_) hd⟩
  obtain ⟨e1, e2⟩ := y
  have e2' : x = .int (lo + (i : Int)) := e2
  subst e1 e2'
  exact hs i σ1 _ (by omega) p

/-- quick_rows where no while begins: NoTop -/
def sp_qrX (c : CA) : Sp := fun vs H Q E => ∃ (vc : V) (code : List Rw) (top : Int) (no mo : V), vs = [vc, .int top, no, mo] ∧ Tp H (rowsD code) vc ∧ (∀ i : Nat, top = (i : Int) → code[i]? ≠ some .top) ∧ E (.ref c.notop) none H
theorem len_qrX {c : CA} (vs : List V) (H : Hp) (Q : VK) (E : XK) (h : sp_qrX c vs H Q E) : vs.length = 4 := by
  obtain ⟨_, _, _, _, _, rfl, _⟩ := h
  rfl
def sp_L_refused (c : CA) : Sp := fun vs H Q _ => ∃ (vc : V) (code : List Rw) (top : Int) (no : V), vs = [vc, .int top, no] ∧ Tp H (rowsD code) vc ∧ (∀ i : Nat, top = (i : Int) → code[i]? ≠ some .top) ∧ Q (.bl true) H
theorem len_L_refused {c : CA} (vs : List V) (H : Hp) (Q : VK) (E : XK) (h : sp_L_refused c vs H Q E) : vs.length = 3 := by
  obtain ⟨_, _, _, _, rfl, _⟩ := h
  rfl
theorem wx_top (r : Rw) : r.wx = wd 11 ↔ r = .top := by
  cases r with
  | op g => cases g <;> simp [Rw.wx, Sg.s, Sg.ix, wd_eq]
  | _ => simp [Rw.wx, wd_eq]
/-- quick_rows where no while begins -/
def t_qrX (K : PySem.W.Frag) (c : CA) (E : XK) : TS := tSeq (tIfS (tOr (tNot (tTest (tChain (rI0 fun i j => .bl (decide (i ≤ j))) (rI0 fun i j => .bl (decide (i < j))) (tC (.int 0)) (tVar 1) (tCB rLenT (tCons (tVar 0) tNil))))) (tTest (tOp rNe (tOp rXT (tOp rXT (tVar 0) (tVar 1)) (tC (.int 0))) (tC (.str (wd 11)))))) (tRz c.notop (fun cls d _ H => E cls d H)) tNext) tNever
/-- _law_refused -/
def t_L_refused (K : PySem.W.Frag) (c : CA) : TS := tSeq (tTryAs K (.ref c.hunch) 3 (fun W => tDrop (tCallS (sp_qrX c) (WE W) (tCons (tVar 0) (tCons (tVar 1) (tCons (tVar 2) (tCons (tC (.int 9)) tNil))))))
    (fun a cls d => tIf (cls = .ref c.notop ∧ d = none) (tRet (tAndV (iE K c.notop a 3 (.ref c.notop)) (tAndV (iE K c.notop a 3 (.ty "ValueError")) (tNotV (iE K c.notop a 3 (.ref c.unread)))))))) (tRet (tC (.bl false)))

theorem rd_qrX {K : PySem.W.Frag} {c : CA} {vs : List V} {H : Hp} {Q : VK} {E : XK} (h : sp_qrX c vs H Q E) : t_qrX K c E { nx := fun _ H' => Q .non H', rt := Q } (start ["_", "_", "_", "_", "_"] vs) H := by
  obtain ⟨vc, code, top, no, mo, rfl, tc, nt, k⟩ := h
  show t_qrX K c E _ [some vc, some (.int top), some no, some mo, none] H
  obtain ⟨ca, rws, rfl, hca, trs⟩ : ∃ a xs, vc = .ref a ∧ H a = some (.tup xs) ∧ TpL H (code.map Rw.d) xs := by
    have t := tc
    unfold rowsD at t
    rw [tp_tup] at t
    exact t
  have ln : rws.length = code.length := by rw [trs.length, List.length_map]
  unfold t_qrX; refine st_seq ?_
  push_cast [hca, ln]
  by_cases h0 : 0 ≤ top
  · refine iteT' h0 ?_
    by_cases h1 : top < (code.length : Int)
    · refine iteF' (fun z => z h1) ?_
      obtain ⟨i, rfl⟩ : ∃ i : Nat, top = (i : Int) := ⟨top.toNat, by omega⟩
      have hi' : i < code.length := by omega
      obtain ⟨y, hy, ty⟩ := trs.get (i := i) (d := code[i].d) (by rw [List.getElem?_map, List.getElem?_eq_getElem hi']; rfl)
      obtain ⟨ra, ys, rfl, hra⟩ := tp_rw ty
      have nw : ¬ code[i].wx = wd 11 := fun z => nt i rfl (by rw [List.getElem?_eq_getElem hi', (wx_top _).mp z])
      push_cast [atI_nat hy, hra]
      exact iteT' nw k
    · exact iteT' h1 k
  · exact iteF' h0 k
theorem rd_L_refused {K : PySem.W.Frag} {c : CA} {vs : List V} {H : Hp} {Q : VK} {E : XK} (hm : PySem.W.exmOne K (.ref c.notop) (.ref c.hunch) = some true) (hV : PySem.W.kitOne K (.ref c.notop) (.type "ValueError") = some true) (ho : PySem.W.kitOne K (.ref c.notop) (.ref c.unread) = some false)
    (h : sp_L_refused c vs H Q E) : t_L_refused K c { nx := fun _ H' => Q .non H', rt := Q } (start ["_", "_", "_", "_"] vs) H := by
  obtain ⟨vc, code, top, no, rfl, tc, nt, k⟩ := h
  show t_L_refused K c _ [some vc, some (.int top), some no, none] H
  have hs : PySem.W.kitOne K (.ref c.notop) (.ref c.notop) = some true := by unfold PySem.W.kitOne; rw [if_pos (beq_self_eq_true _)]
  unfold t_L_refused; refine st_seq ?_
  simp only [tTryAs, tDrop, tCallS, tCons, tNil, tVar, tC]
  refine ⟨_, rfl, _, rfl, _, rfl, vc, code, top, no, _, rfl, tc, nt, true, hm, fun _ a ha => ⟨⟨rfl, rfl⟩, ?_⟩, fun z => by cases z⟩
  simp only [tRet, tAndV, tNotV, iE, tCB, rIsE, tCons, tNil, tVar, tC]
  refine ⟨_, rfl, _, _, true, rfl, fun u hu => hu, hs, ?_⟩
  push_cast [rIsE]
  refine ⟨_, fun u hu => hu, true, hV, ?_⟩
  rw [if_pos rfl]
  exact ⟨_, fun u hu => hu, false, ho, k⟩
/-- law from 5 -/
def t_law_5 (K : PySem.W.Frag) (c : CA) : TS :=
  (tSeq (tFor (iRng2 (tCons (tOp (rI0 fun i j => .int (i - j)) (tUn (rU fun i => .int (-i)) (tC (.int 1))) (tCB rLenT (tCons (tVar 2) tNil))) (tCons (tOp (rI0 fun i j => .int (i + j)) (tCB rLenT (tCons (tVar 2) tNil)) (tC (.int 1))) tNil))) (gName 6)
    (tIfS (tAnd (tTest (tChain (rI0 fun i j => .bl (decide (i ≤ j))) (rI0 fun i j => .bl (decide (i < j))) (tC (.int 0)) (tVar 6) (tCB rLenT (tCons (tVar 2) tNil)))) (tTest (tOp rEq (tOp rXT (tOp rXT (tVar 2) (tVar 6)) (tC (.int 0))) (tC (.str (wd 11)))))) (tSeq (tAsg (tCall sp_L_quick [] E0 (tCons (tVar 2) (tCons (tVar 6) (tCons (tOp rXT (tVar 3) (tC (.int 0))) (tCons (tOp rXT (tVar 3) (tC (.int 1))) (tCons (tVar 5) tNil)))))) (gName 7))
    (tIfS (tNot (tB (tCall (sp_L_alike 40) [] E0 (tCons (tCall (sp_quick_rows c) [] E0 (tCons (tVar 2) (tCons (tVar 6) (tCons (tVar 4) (tCons (tVar 5) tNil))))) (tCons (tVar 7) tNil))))) (tRet (tC (.bl false))) tNext)) (tIfS (tNot (tB (tCall (sp_L_refused c) [] E0 (tCons (tVar 2) (tCons (tVar 6) (tCons (tVar 4) tNil)))))) (tRet (tC (.bl false))) tNext)))
    (tRet (tAndV (tOp rEqDX (xFld c.notes (tVar 4) ("kinds" : Str)) (tOp rXT (tVar 3) (tC (.int 0)))) (tOp rEqDX (xFld c.notes (tVar 4) ("ways" : Str)) (tOp rXT (tVar 3) (tC (.int 1)))))))

/-- law from 4 -/
def t_law_4 (K : PySem.W.Frag) (c : CA) : TS :=
  tSeq (tAsg (tOp (rI0 fun i j => .int (i + j)) (tC (.int 1)) (tCall sp_L_take [] E0 (tCons (tVar 1) (tCons (tC (.int 40)) tNil)))) (gName 5)) (t_law_5 K c)

/-- law from 3 -/
def t_law_3 (K : PySem.W.Frag) (c : CA) : TS :=
  tSeq (tAsg (xMake c.notes (sp_Notes___init__ c) (tCons (tOp rXT (tVar 3) (tC (.int 0))) (tCons (tOp rXT (tVar 3) (tC (.int 1))) tNil))) (gName 4)) (t_law_4 K c)

/-- law from 2 -/
def t_law_2 (K : PySem.W.Frag) (c : CA) : TS :=
  tSeq (tAsg (tCall sp_L_guesses [] E0 (tCons (tVar 1) (tCons (tVar 2) tNil))) (gName 3)) (t_law_3 K c)

/-- law from 1 -/
def t_law_1 (K : PySem.W.Frag) (c : CA) : TS :=
  tSeq (tAsg (tCall sp_L_coded [] E0 (tCons (tCall sp_L_program [] E0 (tCons (tVar 1) (tCons (tC (.int 3)) tNil))) tNil)) (gName 2)) (t_law_2 K c)

/-- law -/
def t_law (K : PySem.W.Frag) (c : CA) : TS :=
  tSeq (tAsg (tCall (sp_L_script K) [] E0 (tCons (tVar 0) tNil)) (gName 1)) (t_law_1 K c)

theorem qx_depth (o : Qx) : o.d.depth ≤ 3 := by
  have h1 : PyData.depthAll (o.names.map fun p => PyData.tuple [.str p.1, .int (p.2 : Nat)]) ≤ 1 := by
    induction o.names with
    | nil => simp [PyData.depthAll]
    | cons a r ih => simp only [List.map_cons, PyData.depthAll, PyData.depth] at ih ⊢; omega
  have h2 : PyData.depthAll (o.half.map fun s => PyData.int (s : Nat)) ≤ 0 := by
    induction o.half with
    | nil => simp [PyData.depthAll]
    | cons a r ih => simp only [List.map_cons, PyData.depthAll, PyData.depth] at ih ⊢; omega
  simp only [Qx.d, PyData.depth, PyData.depthAll]
  omega
theorem qr_depth (r : Qr) : r.d.depth ≤ 4 := by
  cases r with
  | is s k o => have := qx_depth o; simp only [Qr.d, PyData.depth, PyData.depthAll]; omega
  | so s k o => have := qx_depth o; simp only [Qr.d, PyData.depth, PyData.depthAll]; omega
  | leave o => have := qx_depth o; simp only [Qr.d, PyData.depth, PyData.depthAll]; omega
  | _ => simp only [Qr.d, PyData.depth, PyData.depthAll]; omega
theorem quick_depth (l : List Qr) : (quickD l).depth ≤ 5 := by
  unfold quickD
  simp only [PyData.depth]
  have : PyData.depthAll (l.map Qr.d) ≤ 4 := by
    induction l with
    | nil => simp [PyData.depthAll]
    | cons a r ih => have := qr_depth a; simp only [List.map_cons, PyData.depthAll] at ih ⊢; omega
  omega
theorem rd_law {K : PySem.W.Frag} {c : CA} {vs : List V} {H : Hp} {Q : VK} {E : XK} (h : sp_law K vs H Q E) : t_law K c { nx := fun _ H' => Q .non H', rt := Q } (start ["_", "_", "_", "_", "_", "_", "_", "_"] vs) H := by
  obtain ⟨a, ns, rfl, hS, hl, q⟩ := h
  show t_law K c _ [some (.ref a), none, none, none, none, none, none, none] H
  unfold t_law; refine st_seq ?_
  push_cast
  refine ⟨a, ns, rfl, hS, hl, fun b l H1 B1 _ => ?_⟩
  unfold t_law_1; refine st_seq ?_
  push_cast
  refine ⟨b, l, rfl, B1, fun p v H2 ok hd hc tp B2 _ => ?_⟩
  have pk : PrOk p := ⟨ok, by omega, by omega⟩
  refine ⟨v, p, rfl, tp, pk, fun vc H3 tc f3 => ?_⟩
  have B3 := B2.keep f3
  have T := prog_ty ok
  generalize hcode : progC p = code at tc T
  have lcd : code.length ≤ 800000 := by
    have := code_bound (o := .row p) (b := 0) ok (by simp only [Un.cnt]; omega)
    rw [← hcode]
    unfold progC
    simp only [List.length_append, List.length_cons, List.length_nil]
    simp only [Un.code] at this
    omega
  unfold t_law_2; refine st_seq ?_
  push_cast
  refine ⟨b, l, _, code, rfl, B3, tc, by omega, fun t ka wa gk gw H7 ht7 K7 W7 B7 nka nwa kw f7 lk7 lw7 => ?_⟩
  have tc7 := tc.tups f7.tu
  unfold t_law_3; refine st_seq ?_
  push_cast [ht7]
  intro no dn H8 A8
  obtain ⟨kks, hka, kk⟩ := K7.dic
  obtain ⟨wws, hwa, ww⟩ := W7.dic
  have B8 := B7.keep A8.fr
  have tc8 := tc7.tups A8.tu
  refine ⟨no, dn, ka, wa, kks, wws, rfl, A8.at_, A8.k hka, A8.k hwa, fun ka' wa' ta' dn' H9 n1 n2 n3 ne1 ne2 ne3 hno hka' hwa' hta f9 => ⟨rfl, ?_⟩⟩
  have nno : no ∉ [b, l] := B7.off A8.new
  have B9 : BoxAt H9 b l := by
    obtain ⟨x1, x2, x3, x4, x5, x6⟩ := B8
    exact ⟨x1, x2, x3, f9.keep _ _ x4 (by simp; exact fun z => nno (by simp [z])), f9.keep _ _ x5 (by simp; exact fun z => nno (by simp [z])), x6⟩
  have tc9 := tc8.tups f9.tu
  have K9 : KinAt H9 ka' gk := ⟨kks, hka', fun p => ⟨(kk p).1, fun x y e => by
    obtain ⟨v, h1, h2⟩ := (kk p).2 x y e
    exact ⟨v, h1, (h2.tups A8.tu).tups f9.tu⟩⟩⟩
  have W9 : WayAt H9 wa' gw := ⟨wws, hwa', ww⟩
  have ok1 : ka' ∉ [b, l] := B8.off n1
  have ok2 : wa' ∉ [b, l] := B8.off n2
  have nek : ka ≠ no := ne_of_none hka A8.new
  have new : wa ≠ no := ne_of_none hwa A8.new
  have k9 : Fr [no] H7 H9 := A8.fr.trans f9
  have K9' : KinAt H9 ka gk := K7.keep k9 (by simp [nek])
  have W9' : WayAt H9 wa gw := W7.keep k9 (by simp [new])
  have ht9 := k9.tu _ _ ht7
  have lk9 := lk7.keep k9 (by simp [nek])
  have lw9 := lw7.keep k9 (by simp [new])
  obtain ⟨kks', hk7, lkk⟩ := lk7
  obtain ⟨wws', hw7, lww⟩ := lw7
  rw [hka] at hk7
  rw [hwa] at hw7
  cases hk7
  cases hw7
  unfold t_law_4; refine st_seq ?_
  push_cast
  have okk : ka ∉ [b, l] := B3.off nka
  have okw : wa ∉ [b, l] := B3.off nwa
  refine ⟨b, l, 40, rfl, B9, by decide, by decide, fun rm H10 m0 m1 B10 f10 => ⟨rm, rfl, ?_⟩⟩
  have tc10 := tc9.tups f10.tu
  have hno10 := f10.keep _ _ hno nno
  have emost : (1 + rm : Int) = (((1 + rm).toNat : Nat) : Int) := by omega
  rw [emost]
  have K10 := K9.keep f10 ok1
  have W10 := W9.keep f10 ok2
  have K10' := K9'.keep f10 okk
  have W10' := W9'.keep f10 okw
  have ht10 := f10.tu _ _ ht9
  obtain ⟨ca, rws, rfl, hca, trs⟩ : ∃ a xs, vc = .ref a ∧ H10 a = some (.tup xs) ∧ TpL H10 (code.map Rw.d) xs := by
    have t := tc10
    unfold rowsD at t
    rw [tp_tup] at t
    exact t
  have ln : rws.length = code.length := by rw [trs.length, List.length_map]
  have hk10 := f10.keep _ _ hka' ok1
  have hw10 := f10.keep _ _ hwa' ok2
  have hk10' := f10.keep _ _ (k9.keep _ _ hka (by simp [nek])) okk
  have hw10' := f10.keep _ _ (k9.keep _ _ hwa (by simp [new])) okw
  unfold t_law_5; refine st_seq ?_
  refine forR2 (lo := -1 - (code.length : Int)) (hi := (code.length : Int) + 1) (fun R h => by push_cast [hca, ln]; exact h) (by omega) (by omega) (by omega)
    (fun _ σ G => ∃ v6 v7, σ = [some (.ref a), some (.ref b), some (.ref ca), some (.ref t), some (.ref no), some (.int ((1 + rm).toNat : Nat)), v6, v7] ∧ Fr [] H10 G) ⟨none, none, rfl, Fr.refl _ _⟩ ?_ ?_
  · rintro i _ G hi ⟨v6, v7, rfl, g⟩
    generalize -1 - (code.length : Int) + (i : Int) = place at hi ⊢
    have tcG := tc10.tups g.tu
    have hcaG := g.tu _ _ hca
    have htG := g.tu _ _ ht10
    have hnoG := g.keep _ _ hno10 (by simp)
    have refuse : (∀ j : Nat, place = (j : Int) → code[j]? ≠ some .top) → sp_L_refused c [.ref ca, .int place, .ref no] G (fun x H1 => ∃ c, x = V.bl c ∧ if c = false then Q (.bl false) H1 else Fr [] H10 H1) E0 := fun nt => ⟨.ref ca, code, place, .ref no, rfl, tcG, nt, true, rfl, by simpa using g⟩
    push_cast [hcaG, ln]
    refine i2 (fun h0 => i2 (fun h1 => ?_) fun h1 => ?_) fun h0 => ?_
    · obtain ⟨j, rfl⟩ : ∃ j : Nat, place = (j : Int) := ⟨place.toNat, by omega⟩
      have hj : j < code.length := by omega
      obtain ⟨y, hy, ty⟩ := trs.get (i := j) (d := code[j].d) (by rw [List.getElem?_map, List.getElem?_eq_getElem hj]; rfl)
      obtain ⟨ra, ys, rfl, hra⟩ := tp_rw ty
      push_cast [atI_nat hy, g.tu _ _ hra]
      by_cases ht : code[j] = .top
      · rw [if_pos (by rw [ht]; rfl)]
        have ctop : code[j]? = some .top := by rw [List.getElem?_eq_getElem hj, ht]
        have KG := K10.keep g (by simp)
        have WG := W10.keep g (by simp)
        have KG' := K10'.keep g (by simp)
        have WG' := W10'.keep g (by simp)
        refine st_seq ?_
        push_cast [htG]
        refine ⟨.ref ca, code, _, j, (1 + rm).toNat, ka, wa, gk, gw, rfl, tcG, T, ctop, by omega, KG', WG', fun vd rows G1 Qk rlen td g1 => ?_⟩
        have gg := g.trans g1
        push_cast
        refine ⟨.ref ca, code, _, j, (1 + rm).toNat, no, ka', wa', ta', gk, gw, rfl, tcG.tups g1.tu, T, ctop, by omega, ⟨_, g1.keep _ _ hnoG (by simp)⟩, KG.keep g1 (by simp), WG.keep g1 (by simp), fun vq rows' G2 Qk' rlen' tq g2 => ?_⟩
        have e : rows' = rows := Qk'.uni Qk
        subst e
        have hdp := quick_depth rows'
        refine ⟨_, _, _, rfl, tq.rp, (td.tups g2.tu).rp, by omega, true, rfl, ?_⟩
        simpa using gg.trans g2
      · rw [if_neg fun z => ht ((wx_top _).mp z)]
        exact refuse fun i e => by
          have : i = j := by omega
          subst this
          rw [List.getElem?_eq_getElem hj]
          exact fun z => ht (Option.some.inj z)
    · exact refuse fun i e => by
        subst e
        rw [List.getElem?_eq_none (by omega)]
        exact fun z => by cases z
    · exact refuse fun i e => by omega
  · rintro _ G ⟨v6, v7, rfl, g⟩
    push_cast [g.keep _ _ hno10 (by simp), g.tu _ _ ht10]
    exact ⟨_, rfl, ka', rfl, kks, g.keep _ _ hk10 (by simp), kks, g.keep _ _ hk10' (by simp), eqX_kin K7 hka lkk, _, rfl, wa', rfl, wws, g.keep _ _ hw10 (by simp), wws, g.keep _ _ hw10' (by simp), eqX_way W7 hwa lww, q _⟩

/-! ### what the defs lean on -/
structure Top (K : PySem.W.Frag) (mg : Str → Option Value) (c : CA) : Prop where
  d_L_script : DefAt K mg "_law_script" s_L_script
  d_L_take : DefAt K mg "_law_take" s_L_take
  d_L_name : DefAt K mg "_law_name" s_L_name
  d_L_text : DefAt K mg "_law_text" s_L_text
  d_L_part : DefAt K mg "_law_part" s_L_part
  d_L_row : DefAt K mg "_law_row" s_L_row
  d_L_statement : DefAt K mg "_law_statement" s_L_statement
  d_L_counted : DefAt K mg "_law_counted" s_L_counted
  d_L_program : DefAt K mg "_law_program" s_L_program
  d_L_part_code : DefAt K mg "_law_part_code" s_L_part_code
  d_L_code : DefAt K mg "_law_code" s_L_code
  d_L_coded : DefAt K mg "_law_coded" s_L_coded
  d_L_guesses : DefAt K mg "_law_guesses" s_L_guesses
  d_Notes___init__ : InitAt K c.notes "Notes.__init__" s_Notes___init__
  d_L_new : DefAt K mg "_law_new" s_L_new
  d_L_exit : DefAt K mg "_law_exit" s_L_exit
  d_L_sign : DefAt K mg "_law_sign" s_L_sign
  d_L_follow : DefAt K mg "_law_follow" s_L_follow
  d_L_quick : DefAt K mg "_law_quick" s_L_quick
  d_Maker___init__ : InitAt K c.maker "Maker.__init__" s_Maker___init__
  d_Maker_leaving : MethAt K c.maker "leaving" "Maker.leaving" s_Maker_leaving
  d_Maker_way : MethAt K c.maker "way" "Maker.way" s_Maker_way
  d_Maker_slot : MethAt K c.maker "slot" "Maker.slot" s_Maker_slot
  d_kind_of : DefAt K mg "kind_of" s_kind_of
  d_Maker_fixed : MethAt K c.maker "fixed" "Maker.fixed" s_Maker_fixed
  d_Maker_name : MethAt K c.maker "name" "Maker.name" s_Maker_name
  d_Maker_guess : MethAt K c.maker "guess" "Maker.guess" s_Maker_guess
  d_Maker_guard : MethAt K c.maker "guard" "Maker.guard" s_Maker_guard
  d_Maker_sign : MethAt K c.maker "sign" "Maker.sign" s_Maker_sign
  d_Maker_plain : MethAt K c.maker "plain" "Maker.plain" s_Maker_plain
  d_Maker_closed : MethAt K c.maker "closed" "Maker.closed" s_Maker_closed
  d_Maker_follow : MethAt K c.maker "follow" "Maker.follow" s_Maker_follow
  d_quick_rows : DefAt K mg "quick_rows" s_quick_rows
  d_L_alike : DefAt K mg "_law_alike" s_L_alike
  d_L_refused : DefAt K mg "_law_refused" s_L_refused
  d_law : DefAt K mg "law" s_law
  cl_Maker : Cls K c.maker
  mg_Maker : mg "Maker" = some (.ref c.maker)
  na_Maker_code : NoAttr K c.maker "code"
  na_Maker_guess_kinds : NoAttr K c.maker "guess_kinds"
  na_Maker_guess_ways : NoAttr K c.maker "guess_ways"
  na_Maker_rows : NoAttr K c.maker "rows"
  na_Maker_many : NoAttr K c.maker "many"
  na_Maker_where : NoAttr K c.maker "where"
  na_Maker_changed : NoAttr K c.maker "changed"
  na_Maker_half : NoAttr K c.maker "half"
  na_Maker_known : NoAttr K c.maker "known"
  cl_Notes : Cls K c.notes
  mg_Notes : mg "Notes" = some (.ref c.notes)
  na_Notes_kinds : NoAttr K c.notes "kinds"
  na_Notes_ways : NoAttr K c.notes "ways"
  na_Notes_tops : NoAttr K c.notes "tops"
  g_len : mg "len" = none
  g_range : mg "range" = none
  g_isinstance : mg "isinstance" = none
  g_int : mg "int" = none
  g_str : mg "str" = none
  g_list : mg "list" = none
  g_tuple : mg "tuple" = none
  g_dict : mg "dict" = none
  g_sum : mg "sum" = none
  g_enumerate : mg "enumerate" = none
  g_sorted : mg "sorted" = none
  g_bool : mg "bool" = none
  g_reversed : mg "reversed" = none
  x_NoTop : ExD K mg "NoTop" c.notop
  m_NoTop : PySem.W.exmOne K (.ref c.notop) (.ref c.hunch) = some true
  mg_HunchError : mg "HunchError" = some (.ref c.hunch)
  mg_Unread : mg "Unread" = some (.ref c.unread)
  mg_NoTop : mg "NoTop" = some (.ref c.notop)
  g_ValueError : mg "ValueError" = none
  ec : ExcC K c.notop
  k_V : PySem.W.kitOne K (.ref c.notop) (.type "ValueError") = some true
  k_o : PySem.W.kitOne K (.ref c.notop) (.ref c.unread) = some false
  k_h : PySem.W.kitOne K (.ref c.notop) (.ref c.hunch) = some true
section
variable {P : Program} {w : World} {K : PySem.W.Frag} {mg : Str → Option Value} {base : Heap} {c : CA}
abbrev nm_L_script : List Str := ["_law_script_here", "_law_stirred", "_law_at", "_law_cell"]
theorem sc_L_script : FnScope nm_L_script ["_law_script_here"] (defScope s_L_script) := ⟨rfl, rfl, rfl, by decide +kernel, rfl, by decide +kernel, by decide +kernel⟩
theorem ok_L_script (T : Top K mg c) : OkF P w K mg base (1) "_law_script" ["_law_script_here"] (sp_L_script K) := by
  refine DefAt.ok (k := 0) T.d_L_script sc_L_script (fun _ _ _ _ _ _ us hl => match us, hl with | [_], _ => rfl) len_L_script (fun f cdv A outer s H vs Q E hr h => ⟨t_L_script K, ?_, fun z => rd_L_script h⟩)
  have hu := hu_of hr
  exact (pss_cons (ps_set (i := 1) sc_L_script.nd rfl (Or.inl rfl) (pe_op op_mod (pe_callB (cr_sum (by rfl)) (by rfl) T.g_sum (by decide +kernel) (pa_cons (pe_lc (own := [("_law_at", 2), ("_law_cell", 3)]) rfl sc_L_script.nd (pi_enum (by rfl) T.g_enumerate (pa_cons (pv 0) pa_nil)) (blkOk_by (own := [("_law_at", 2), ("_law_cell", 3)]) (N := nm_L_script) (sc := defScope s_L_script) (by decide +kernel)) (fun _ _ _ _ _ => (pg_tup rfl (pgs_cons (pg_name (i := 2) sc_L_script.nd rfl (Or.inl rfl)) (pgs_cons (pg_name (i := 3) sc_L_script.nd rfl (Or.inl rfl)) pgs_nil)))) (fun _ _ _ _ _ => pts_nil) (fun _ _ _ _ _ => (pe_op op_mul (pe_op op_add (pv 2) pe_int) (pe_op op_mod (pv 3) pe_int)))) pa_nil)) pe_int))
    (pss_one (ps_ret (pe_lstX (pa_cons (pe_callTy cl_lstK (by rfl) T.g_list (by decide +kernel) (pa_cons (pv 0) pa_nil)) (pa_cons (pe_op op_mul (pv 1) (pe_callTy cl_int1 (by rfl) T.g_int (by decide +kernel) (pa_cons (pe_cmpR op_gt (pe_callB call_len_seq (by rfl) T.g_len (by decide +kernel) (pa_cons (pv 0) pa_nil)) pe_int (nomark _)) pa_nil))) pa_nil))))))

abbrev nm_L_take : List Str := ["_law_box", "_law_many", "_law_number"]
theorem sc_L_take : FnScope nm_L_take ["_law_box", "_law_many"] (defScope s_L_take) := ⟨rfl, rfl, rfl, by decide +kernel, rfl, by decide +kernel, by decide +kernel⟩
theorem ok_L_take (T : Top K mg c) : OkF P w K mg base (1) "_law_take" ["_law_box", "_law_many"] sp_L_take := by
  refine DefAt.ok (k := 0) T.d_L_take sc_L_take (fun _ _ _ _ _ _ us hl => match us, hl with | [_, _], _ => rfl) len_L_take (fun f cdv A outer s H vs Q E hr h => ⟨t_L_take K, ?_, fun z => rd_L_take h⟩)
  have hu := hu_of hr
  exact (pss_cons (ps_if (pt_cmpR (op_eqE hr.units) (pe_ix ix_l (pv 0) pe_int (fun _ _ => rfl)) (pe_lstX pa_nil) (nomark _)) (pss_cons (ps_asg (pe_op op_mod (pe_op op_mul (pe_ix ix_l (pv 0) pe_int (fun _ _ => rfl)) pe_int) pe_int) (pg_sub (pv 0) pe_int set_l))
    (pss_one (ps_ret (pe_op op_mod (pe_op op_fdiv (pe_ix ix_l (pv 0) pe_int (fun _ _ => rfl)) pe_int) (pv 1))))) pss_nil)
    (pss_cons (ps_set (i := 2) sc_L_take.nd rfl (Or.inl rfl) (pe_ix ix_l (pe_ix ix_l (pv 0) pe_int (fun _ _ => rfl)) pe_int (fun _ _ => rfl)))
    (pss_cons (ps_asg (pe_op op_fdiv (pv 2) (pv 1)) (pg_sub (pe_ix ix_l (pv 0) pe_int (fun _ _ => rfl)) pe_int set_l))
    (pss_cons (ps_if (pt_cmpR op_inT (pe_ix ix_l (pe_ix ix_l (pv 0) pe_int (fun _ _ => rfl)) pe_int (fun _ _ => rfl)) (pe_tupX (pa_cons pe_int (pa_cons (pe_un un_neg pe_int) pa_nil))) (by rfl)) (pss_one (ps_expr (pe_popAt (pe_ix ix_l (pv 0) pe_int (fun _ _ => rfl)) pe_int))) pss_nil)
    (pss_one (ps_ret (pe_op op_mod (pv 2) (pv 1))))))))

abbrev nm_L_name : List Str := ["_law_box", "_law_far"]
theorem sc_L_name : FnScope nm_L_name ["_law_box"] (defScope s_L_name) := ⟨rfl, rfl, rfl, by decide +kernel, rfl, by decide +kernel, by decide +kernel⟩
theorem ok_L_name (T : Top K mg c) : OkF P w K mg base (2) "_law_name" ["_law_box"] sp_L_name := by
  refine DefAt.ok (k := 1) T.d_L_name sc_L_name (fun _ _ _ _ _ _ us hl => match us, hl with | [_], _ => rfl) len_L_name (fun f cdv A outer s H vs Q E hr h => ⟨t_L_name K, ?_, fun z => rd_L_name h⟩)
  have hu := hu_of hr
  exact (pss_cons (ps_set (i := 1) sc_L_name.nd rfl (Or.inl rfl) (pe_op op_mul pe_int (pe_callTy cl_int1 (by rfl) T.g_int (by decide +kernel) (pa_cons (pe_cmpR op_eq (pe_callF (ok_L_take T) (hr.mono (by decide)) (by rfl) (pa_cons (pv 0) (pa_cons pe_int pa_nil))) pe_int (nomark _)) pa_nil))))
    (pss_one (ps_ret (pe_ix ix_str pe_str (pe_op op_add (pe_callF (ok_L_take T) (hr.mono (by decide)) (by rfl) (pa_cons (pv 0) (pa_cons pe_int pa_nil))) (pv 1)) (fun _ _ => rfl)))))

abbrev nm_L_text : List Str := ["_law_box", "_law_some", "_law_size", "_law_k"]
theorem sc_L_text : FnScope nm_L_text ["_law_box"] (defScope s_L_text) := ⟨rfl, rfl, rfl, by decide +kernel, rfl, by decide +kernel, by decide +kernel⟩
theorem ok_L_text (T : Top K mg c) : OkF P w K mg base (2) "_law_text" ["_law_box"] sp_L_text := by
  refine DefAt.ok (k := 1) T.d_L_text sc_L_text (fun _ _ _ _ _ _ us hl => match us, hl with | [_], _ => rfl) len_L_text (fun f cdv A outer s H vs Q E hr h => ⟨t_L_text K, ?_, fun z => rd_L_text h⟩)
  have hu := hu_of hr
  exact (pss_cons (ps_set (i := 1) sc_L_text.nd rfl (Or.inr rfl) (pe_ix ix_l (pe_lstX (pa_cons pe_str (pa_cons pe_str pa_nil))) (pe_callF (ok_L_take T) (hr.mono (by decide)) (by rfl) (pa_cons (pv 0) (pa_cons pe_int pa_nil))) (fun _ _ => rfl)))
    (pss_cons (ps_set (i := 2) sc_L_text.nd rfl (Or.inl rfl) (pe_ix ix_l (pe_lstX (pa_cons (pe_callF (ok_L_take T) (hr.mono (by decide)) (by rfl) (pa_cons (pv 0) (pa_cons pe_int pa_nil))) (pa_cons (pe_callF (ok_L_take T) (hr.mono (by decide)) (by rfl) (pa_cons (pv 0) (pa_cons pe_int pa_nil))) pa_nil))) (pe_callTy cl_int1 (by rfl) T.g_int (by decide +kernel) (pa_cons (pe_cmpR op_eq (pe_callF (ok_L_take T) (hr.mono (by decide)) (by rfl) (pa_cons (pv 0) (pa_cons pe_int pa_nil))) pe_int (nomark _)) pa_nil)) (fun _ _ => rfl)))
    (pss_one (ps_ret (pe_joinL pe_str (pe_lc (own := [("_law_k", 3)]) rfl sc_L_text.nd (pi_range1 (by rfl) T.g_range (pa_cons (pv 2) pa_nil)) (blkOk_by (own := [("_law_k", 3)]) (N := nm_L_text) (sc := defScope s_L_text) (by decide +kernel)) (fun _ _ _ _ _ => (pg_name (i := 3) sc_L_text.nd rfl (Or.inl rfl))) (fun _ _ _ _ _ => pts_nil) (fun _ _ _ _ _ => (pe_ix ix_str (pv 1) (pe_callF (ok_L_take T) (hr.mono (by decide)) (by rfl) (pa_cons (pv 0) (pa_cons (pe_callB cl_lenS (by rfl) T.g_len (by decide +kernel) (pa_cons (pv 1) pa_nil)) pa_nil))) (fun _ _ => rfl)))))))))

abbrev nm_L_part : List Str := ["_law_box", "_law_deep", "_law_kind", "_law_word", "_law_one"]
theorem sc_L_part : FnScope nm_L_part ["_law_box", "_law_deep"] (defScope s_L_part) := ⟨rfl, rfl, rfl, by decide +kernel, rfl, by decide +kernel, by decide +kernel⟩
theorem ok_L_part (T : Top K mg c) (n : Nat) (ih : OkF P w K mg base (n + 2) "_law_part" ["_law_box", "_law_deep"] (sp_L_part n)) : OkF P w K mg base (n + 1 + 2) "_law_part" ["_law_box", "_law_deep"] (sp_L_part (n + 1)) := by
  refine (DefAt.ok (k := n + 2) T.d_L_part sc_L_part (fun _ _ _ _ _ _ us hl => match us, hl with | [_, _], _ => rfl) len_L_part (fun f cdv A outer s H vs Q E hr h => ⟨t_L_part K n, ?_, fun z => rd_L_part h⟩)).mono (by omega)
  have hu := hu_of hr
  exact (pss_cons (ps_set (i := 2) sc_L_part.nd rfl (Or.inl rfl) (pe_callF (ok_L_take T) (hr.mono (by omega)) (by rfl) (pa_cons (pv 0) (pa_cons pe_int pa_nil))))
    (pss_cons (ps_if (pt_cmpR op_lt (pv 2) pe_int (nomark _)) (pss_one (ps_ret (pe_tupX (pa_cons pe_str (pa_cons (pe_callF (ok_L_name T) (hr.mono (by omega)) (by rfl) (pa_cons (pv 0) pa_nil)) pa_nil))))) pss_nil)
    (pss_cons (ps_if (PW.pt (pw_or (pt_cmpR op_eq (pv 1) pe_int (nomark _)) (pw_or1 (pt_cmpR op_lt (pv 2) pe_int (nomark _))))) (pss_cons (ps_if (pt_cmpR op_eq (pv 2) pe_int (nomark _)) (pss_one (ps_ret (pe_tupX (pa_cons pe_str (pa_cons (pe_callF (ok_L_text T) (hr.mono (by omega)) (by rfl) (pa_cons (pv 0) pa_nil)) pa_nil))))) pss_nil)
    (pss_one (ps_ret (pe_tupX (pa_cons pe_str (pa_cons (pe_ix ix_l (pe_lstX (pa_cons (pe_callF (ok_L_take T) (hr.mono (by omega)) (by rfl) (pa_cons (pv 0) (pa_cons pe_int pa_nil))) (pa_cons (pe_callF (ok_L_take T) (hr.mono (by omega)) (by rfl) (pa_cons (pv 0) (pa_cons pe_int pa_nil))) pa_nil))) (pe_callTy cl_int1 (by rfl) T.g_int (by decide +kernel) (pa_cons (pe_cmpR op_eq (pv 2) pe_int (nomark _)) pa_nil)) (fun _ _ => rfl)) pa_nil)))))) pss_nil)
    (pss_cons (ps_set (i := 3) sc_L_part.nd rfl (Or.inl rfl) (pe_ix ix_l (pe_lstX (pa_cons pe_str (pa_cons pe_str (pa_cons pe_str (pa_cons pe_str pa_nil))))) (pe_callF (ok_L_take T) (hr.mono (by omega)) (by rfl) (pa_cons (pv 0) (pa_cons pe_int pa_nil))) (fun _ _ => rfl)))
    (pss_cons (ps_set (i := 4) sc_L_part.nd rfl (Or.inl rfl) (pe_callF ih (hr.mono (by omega)) (by rfl) (pa_cons (pv 0) (pa_cons (pe_op op_sub (pv 1) pe_int) pa_nil))))
    (pss_one (ps_ret (pe_tupX (pa_cons (pv 3) (pa_cons (pv 4) (pa_cons (pe_callF ih (hr.mono (by omega)) (by rfl) (pa_cons (pv 0) (pa_cons (pe_op op_sub (pv 1) pe_int) pa_nil))) pa_nil)))))))))))
theorem okG_L_part (T : Top K mg c) : ∀ n : Nat, OkF P w K mg base (n + 2) "_law_part" ["_law_box", "_law_deep"] (sp_L_part n)
  | 0 => (DefAt.none T.d_L_part (fun _ _ _ _ _ _ us hl => match us, hl with | [_, _], _ => rfl) no_L_part).mono (Nat.zero_le _)
  | n + 1 => ok_L_part T n (okG_L_part T n)
theorem okR_L_part (T : Top K mg c) (n : Nat) : OkF P w K mg base (n + 2) "_law_part" ["_law_box", "_law_deep"] (sp_L_part n) := (okG_L_part T n)

abbrev nm_L_row : List Str := ["_law_box", "_law_deep", "_law_many", "_law_k"]
theorem sc_L_row : FnScope nm_L_row ["_law_box", "_law_deep", "_law_many"] (defScope s_L_row) := ⟨rfl, rfl, rfl, by decide +kernel, rfl, by decide +kernel, by decide +kernel⟩
theorem ok_L_row (T : Top K mg c) (n : Nat) (ih : OkF P w K mg base (n + 8) "_law_row" ["_law_box", "_law_deep", "_law_many"] (sp_L_row n) ∧ OkF P w K mg base (n + 8) "_law_statement" ["_law_box", "_law_deep"] (sp_L_statement n)) : OkF P w K mg base (n + 1 + 8) "_law_row" ["_law_box", "_law_deep", "_law_many"] (sp_L_row (n + 1)) := by
  refine (DefAt.ok (k := n + 8) T.d_L_row sc_L_row (fun _ _ _ _ _ _ us hl => match us, hl with | [_, _, _], _ => rfl) len_L_row (fun f cdv A outer s H vs Q E hr h => ⟨t_L_row K n, ?_, fun z => rd_L_row h⟩)).mono (by omega)
  have hu := hu_of hr
  exact (pss_cons (ps_if (PW.pt (pw_and (pt_cmpR op_lt (pv 1) pe_int (nomark _)) (pw_and1 (pt_cmpR op_eq (pe_callF (ok_L_take T) (hr.mono (by omega)) (by rfl) (pa_cons (pv 0) (pa_cons pe_int pa_nil))) pe_int (nomark _))))) (pss_one (ps_set (i := 2) sc_L_row.nd rfl (Or.inl rfl) (pe_callF (ok_L_take T) (hr.mono (by omega)) (by rfl) (pa_cons (pv 0) (pa_cons pe_int pa_nil))))) pss_nil)
    (pss_one (ps_ret (pe_tupX (pa_cons pe_str (pa_cons (pe_callTy cl_tupL (by rfl) T.g_tuple (by decide +kernel) (pa_cons (pe_lc (own := [("_law_k", 3)]) rfl sc_L_row.nd (pi_range1 (by rfl) T.g_range (pa_cons (pv 2) pa_nil)) (blkOk_by (own := [("_law_k", 3)]) (N := nm_L_row) (sc := defScope s_L_row) (by decide +kernel)) (fun _ _ _ _ _ => (pg_name (i := 3) sc_L_row.nd rfl (Or.inl rfl))) (fun _ _ _ _ _ => pts_nil) (fun _ _ _ _ _ => (pe_callF ih.2 (hr.mono (by omega)) (by rfl) (pa_cons (pv 0) (pa_cons (pv 1) pa_nil))))) pa_nil)) pa_nil))))))

abbrev nm_L_statement : List Str := ["_law_box", "_law_deep", "_law_kind", "_law_far", "_law_part_here", "_law_inner"]
theorem sc_L_statement : FnScope nm_L_statement ["_law_box", "_law_deep"] (defScope s_L_statement) := ⟨rfl, rfl, rfl, by decide +kernel, rfl, by decide +kernel, by decide +kernel⟩
theorem ok_L_statement (T : Top K mg c) (n : Nat) (ih : OkF P w K mg base (n + 8) "_law_row" ["_law_box", "_law_deep", "_law_many"] (sp_L_row n) ∧ OkF P w K mg base (n + 8) "_law_statement" ["_law_box", "_law_deep"] (sp_L_statement n)) : OkF P w K mg base (n + 1 + 8) "_law_statement" ["_law_box", "_law_deep"] (sp_L_statement (n + 1)) := by
  refine (DefAt.ok (k := n + 8) T.d_L_statement sc_L_statement (fun _ _ _ _ _ _ us hl => match us, hl with | [_, _], _ => rfl) len_L_statement (fun f cdv A outer s H vs Q E hr h => ⟨t_L_statement K n, ?_, fun z => rd_L_statement h⟩)).mono (by omega)
  have hu := hu_of hr
  exact (pss_cons (ps_set (i := 2) sc_L_statement.nd rfl (Or.inl rfl) (pe_callF (ok_L_take T) (hr.mono (by omega)) (by rfl) (pa_cons (pv 0) (pa_cons pe_int pa_nil))))
    (pss_cons (ps_set (i := 3) sc_L_statement.nd rfl (Or.inl rfl) (pe_ix ix_l (pe_lstX (pa_cons pe_int (pa_cons pe_int pa_nil))) (pe_callTy cl_int1 (by rfl) T.g_int (by decide +kernel) (pa_cons (pe_cmpR op_eq (pe_callF (ok_L_take T) (hr.mono (by omega)) (by rfl) (pa_cons (pv 0) (pa_cons pe_int pa_nil))) pe_int (nomark _)) pa_nil)) (fun _ _ => rfl)))
    (pss_cons (ps_if (PW.pt (pw_or (pt_cmpR op_eq (pv 1) pe_int (nomark _)) (pw_or1 (pt_cmpR op_lt (pv 2) pe_int (nomark _))))) (pss_cons (ps_if (pt_cmpR op_inT (pv 2) (pe_tupX (pa_cons pe_int (pa_cons pe_int (pa_cons pe_int pa_nil)))) (by rfl)) (pss_one (ps_ret (pe_tupX (pa_cons pe_str (pa_cons (pe_callF (okR_L_part T 6) (hr.mono (by omega)) (by rfl) (pa_cons (pv 0) (pa_cons (pv 3) pa_nil))) pa_nil))))) pss_nil)
    (pss_one (ps_ret (pe_tupX (pa_cons pe_str (pa_cons (pe_callF (ok_L_name T) (hr.mono (by omega)) (by rfl) (pa_cons (pv 0) pa_nil)) (pa_cons (pe_callF (okR_L_part T 6) (hr.mono (by omega)) (by rfl) (pa_cons (pv 0) (pa_cons (pv 3) pa_nil))) pa_nil))))))) pss_nil)
    (pss_cons (ps_set (i := 4) sc_L_statement.nd rfl (Or.inl rfl) (pe_callF (okR_L_part T 6) (hr.mono (by omega)) (by rfl) (pa_cons (pv 0) (pa_cons pe_int pa_nil))))
    (pss_cons (ps_set (i := 5) sc_L_statement.nd rfl (Or.inl rfl) (pe_callF ih.1 (hr.mono (by omega)) (by rfl) (pa_cons (pv 0) (pa_cons (pe_op op_sub (pv 1) pe_int) (pa_cons (pe_callF (ok_L_take T) (hr.mono (by omega)) (by rfl) (pa_cons (pv 0) (pa_cons pe_int pa_nil))) pa_nil)))))
    (pss_cons (ps_if (pt_cmpR op_lt (pv 2) pe_int (nomark _)) (pss_one (ps_ret (pe_tupX (pa_cons pe_str (pa_cons (pv 4) (pa_cons (pv 5) (pa_cons (pe_callF ih.1 (hr.mono (by omega)) (by rfl) (pa_cons (pv 0) (pa_cons (pe_op op_sub (pv 1) pe_int) (pa_cons (pe_callF (ok_L_take T) (hr.mono (by omega)) (by rfl) (pa_cons (pv 0) (pa_cons pe_int pa_nil))) pa_nil)))) pa_nil))))))) pss_nil)
    (pss_one (ps_ret (pe_tupX (pa_cons pe_str (pa_cons (pv 4) (pa_cons (pv 5) pa_nil))))))))))))
theorem okG_L_row (T : Top K mg c) : ∀ n : Nat, OkF P w K mg base (n + 8) "_law_row" ["_law_box", "_law_deep", "_law_many"] (sp_L_row n) ∧ OkF P w K mg base (n + 8) "_law_statement" ["_law_box", "_law_deep"] (sp_L_statement n)
  | 0 => ⟨(DefAt.none T.d_L_row (fun _ _ _ _ _ _ us hl => match us, hl with | [_, _, _], _ => rfl) no_L_row).mono (Nat.zero_le _), (DefAt.none T.d_L_statement (fun _ _ _ _ _ _ us hl => match us, hl with | [_, _], _ => rfl) no_L_statement).mono (Nat.zero_le _)⟩
  | n + 1 => ⟨ok_L_row T n (okG_L_row T n), ok_L_statement T n (okG_L_row T n)⟩
theorem okR_L_row (T : Top K mg c) (n : Nat) : OkF P w K mg base (n + 8) "_law_row" ["_law_box", "_law_deep", "_law_many"] (sp_L_row n) := (okG_L_row T n).1
theorem okR_L_statement (T : Top K mg c) (n : Nat) : OkF P w K mg base (n + 8) "_law_statement" ["_law_box", "_law_deep"] (sp_L_statement n) := (okG_L_row T n).2

abbrev nm_L_counted : List Str := ["_law_row_here", "_law_turns", "_law_step", "_law_loop"]
theorem sc_L_counted : FnScope nm_L_counted ["_law_row_here", "_law_turns"] (defScope s_L_counted) := ⟨rfl, rfl, rfl, by decide +kernel, rfl, by decide +kernel, by decide +kernel⟩
theorem ok_L_counted (T : Top K mg c) : OkF P w K mg base (1) "_law_counted" ["_law_row_here", "_law_turns"] sp_L_counted := by
  refine DefAt.ok (k := 0) T.d_L_counted sc_L_counted (fun _ _ _ _ _ _ us hl => match us, hl with | [_, _], _ => rfl) len_L_counted (fun f cdv A outer s H vs Q E hr h => ⟨t_L_counted K, ?_, fun z => rd_L_counted h⟩)
  have hu := hu_of hr
  exact (pss_cons (ps_set (i := 2) sc_L_counted.nd rfl (Or.inl rfl) (pe_tupX (pa_cons pe_str (pa_cons pe_str (pa_cons (pe_tupX (pa_cons pe_str (pa_cons (pe_tupX (pa_cons pe_str (pa_cons pe_str pa_nil))) (pa_cons (pe_tupX (pa_cons pe_str (pa_cons pe_int pa_nil))) pa_nil)))) pa_nil)))))
    (pss_cons (ps_set (i := 3) sc_L_counted.nd rfl (Or.inl rfl) (pe_tupX (pa_cons pe_str (pa_cons (pe_tupX (pa_cons pe_str (pa_cons pe_str pa_nil))) (pa_cons (pe_tupX (pa_cons pe_str (pa_cons (pe_op op_catX (pe_ix ix_t (pv 0) pe_int (fun _ _ => rfl)) (pe_tupX (pa_cons (pv 2) pa_nil))) pa_nil))) pa_nil)))))
    (pss_one (ps_ret (pe_tupX (pa_cons pe_str (pa_cons (pe_tupX (pa_cons (pe_tupX (pa_cons pe_str (pa_cons pe_str (pa_cons (pe_tupX (pa_cons pe_str (pa_cons (pv 1) pa_nil))) pa_nil)))) (pa_cons (pv 3) pa_nil))) pa_nil)))))))

abbrev nm_L_program : List Str := ["_law_box", "_law_deep", "_law_many", "_law_row_here"]
theorem sc_L_program : FnScope nm_L_program ["_law_box", "_law_deep"] (defScope s_L_program) := ⟨rfl, rfl, rfl, by decide +kernel, rfl, by decide +kernel, by decide +kernel⟩
theorem ok_L_program (T : Top K mg c) : OkF P w K mg base (17) "_law_program" ["_law_box", "_law_deep"] sp_L_program := by
  refine DefAt.ok (k := 16) T.d_L_program sc_L_program (fun _ _ _ _ _ _ us hl => match us, hl with | [_, _], _ => rfl) len_L_program (fun f cdv A outer s H vs Q E hr h => ⟨t_L_program K, ?_, fun z => rd_L_program h⟩)
  have hu := hu_of hr
  exact (pss_cons (ps_set (i := 2) sc_L_program.nd rfl (Or.inl rfl) (pe_op op_add pe_int (pe_callF (ok_L_take T) (hr.mono (by decide)) (by rfl) (pa_cons (pv 0) (pa_cons pe_int pa_nil)))))
    (pss_cons (ps_if (pt_cmpR op_eq (pe_callF (ok_L_take T) (hr.mono (by decide)) (by rfl) (pa_cons (pv 0) (pa_cons pe_int pa_nil))) pe_int (nomark _)) (pss_one (ps_set (i := 2) sc_L_program.nd rfl (Or.inl rfl) (pe_op op_add pe_int (pe_callF (ok_L_take T) (hr.mono (by decide)) (by rfl) (pa_cons (pv 0) (pa_cons pe_int pa_nil)))))) pss_nil)
    (pss_cons (ps_set (i := 3) sc_L_program.nd rfl (Or.inl rfl) (pe_callF (okR_L_row T 8) (hr.mono (by decide)) (by rfl) (pa_cons (pv 0) (pa_cons (pv 1) (pa_cons (pv 2) pa_nil)))))
    (pss_cons (ps_if (pt_cmpR op_eq (pe_callF (ok_L_take T) (hr.mono (by decide)) (by rfl) (pa_cons (pv 0) (pa_cons pe_int pa_nil))) pe_int (nomark _)) (pss_one (ps_set (i := 3) sc_L_program.nd rfl (Or.inl rfl) (pe_callF (ok_L_counted T) (hr.mono (by decide)) (by rfl) (pa_cons (pv 3) (pa_cons (pe_op op_add pe_int (pe_callF (ok_L_take T) (hr.mono (by decide)) (by rfl) (pa_cons (pv 0) (pa_cons pe_int pa_nil)))) pa_nil))))) pss_nil)
    (pss_one (ps_ret (pv 3)))))))

abbrev nm_L_part_code : List Str := ["_law_part_here"]
theorem sc_L_part_code : FnScope nm_L_part_code ["_law_part_here"] (defScope s_L_part_code) := ⟨rfl, rfl, rfl, by decide +kernel, rfl, by decide +kernel, by decide +kernel⟩
theorem ok_L_part_code (T : Top K mg c) (n : Nat) (ih : OkF P w K mg base (n + 0) "_law_part_code" ["_law_part_here"] (sp_L_part_code n)) : OkF P w K mg base (n + 1 + 0) "_law_part_code" ["_law_part_here"] (sp_L_part_code (n + 1)) := by
  refine (DefAt.ok (k := n + 0) T.d_L_part_code sc_L_part_code (fun _ _ _ _ _ _ us hl => match us, hl with | [_], _ => rfl) len_L_part_code (fun f cdv A outer s H vs Q E hr h => ⟨t_L_part_code K n, ?_, fun z => rd_L_part_code h⟩)).mono (by omega)
  have hu := hu_of hr
  exact (pss_cons (ps_if (pt_cmpR op_inT (pe_ix ix_t (pv 0) pe_int (fun _ _ => rfl)) (pe_tupX (pa_cons pe_str (pa_cons pe_str (pa_cons pe_str pa_nil)))) (by rfl)) (pss_one (ps_ret (pe_lstX (pa_cons (pv 0) pa_nil)))) pss_nil)
    (pss_one (ps_ret (pe_op op_ct (pe_op op_ct (pe_callF ih (hr.mono (by omega)) (by rfl) (pa_cons (pe_ix ix_t (pv 0) pe_int (fun _ _ => rfl)) pa_nil)) (pe_callF ih (hr.mono (by omega)) (by rfl) (pa_cons (pe_ix ix_t (pv 0) pe_int (fun _ _ => rfl)) pa_nil))) (pe_lstX (pa_cons (pe_tupX (pa_cons (pe_ix ix_t (pv 0) pe_int (fun _ _ => rfl)) pa_nil)) pa_nil))))))
theorem okG_L_part_code (T : Top K mg c) : ∀ n : Nat, OkF P w K mg base (n + 0) "_law_part_code" ["_law_part_here"] (sp_L_part_code n)
  | 0 => (DefAt.none T.d_L_part_code (fun _ _ _ _ _ _ us hl => match us, hl with | [_], _ => rfl) no_L_part_code).mono (Nat.zero_le _)
  | n + 1 => ok_L_part_code T n (okG_L_part_code T n)
theorem okR_L_part_code (T : Top K mg c) (n : Nat) : OkF P w K mg base (n + 0) "_law_part_code" ["_law_part_here"] (sp_L_part_code n) := (okG_L_part_code T n)

abbrev nm_L_code : List Str := ["_law_one", "_law_base", "_law_word", "_law_rows", "_law_part_here", "_law_head", "_law_inner", "_law_leave", "_law_yes", "_law_here", "_law_no"]
theorem sc_L_code : FnScope nm_L_code ["_law_one", "_law_base"] (defScope s_L_code) := ⟨rfl, rfl, rfl, by decide +kernel, rfl, by decide +kernel, by decide +kernel⟩
theorem ok_L_code (T : Top K mg c) (n : Nat) (ih : OkF P w K mg base (n + 7) "_law_code" ["_law_one", "_law_base"] (sp_L_code n)) : OkF P w K mg base (n + 1 + 7) "_law_code" ["_law_one", "_law_base"] (sp_L_code (n + 1)) := by
  refine (DefAt.ok (k := n + 7) T.d_L_code sc_L_code (fun _ _ _ _ _ _ us hl => match us, hl with | [_, _], _ => rfl) len_L_code (fun f cdv A outer s H vs Q E hr h => ⟨t_L_code K n, ?_, fun z => rd_L_code h⟩)).mono (by omega)
  have hu := hu_of hr
  exact (pss_cons (ps_set (i := 2) sc_L_code.nd rfl (Or.inl rfl) (pe_ix ix_t (pv 0) pe_int (fun _ _ => rfl)))
    (pss_cons (ps_if (pt_cmpR op_eq (pv 2) pe_str (nomark _)) (pss_cons (ps_set (i := 3) sc_L_code.nd rfl (Or.inl rfl) (pe_lstX pa_nil))
    (pss_cons (ps_for PassesOwn.never rfl (pi_tup (pe_ix ix_t (pv 0) pe_int (fun _ _ => rfl))) (pg_name (i := 4) sc_L_code.nd rfl (Or.inl rfl))
    (pss_one (ps_set (i := 3) sc_L_code.nd rfl (Or.inl rfl) (pe_op op_ct (pv 3) (pe_callF ih (hr.mono (by omega)) (by rfl) (pa_cons (pv 4) (pa_cons (pe_op op_add (pv 1) (pe_callB cl_lenL (by rfl) T.g_len (by decide +kernel) (pa_cons (pv 3) pa_nil))) pa_nil)))))))
    (pss_one (ps_ret (pv 3))))) pss_nil)
    (pss_cons (ps_if (pt_cmpR op_eq (pv 2) pe_str (nomark _)) (pss_one (ps_ret (pe_op op_ct (pe_callF (okR_L_part_code T 7) (hr.mono (by omega)) (by rfl) (pa_cons (pe_ix ix_t (pv 0) pe_int (fun _ _ => rfl)) pa_nil)) (pe_lstX (pa_cons (pe_tupX (pa_cons pe_str pa_nil)) pa_nil))))) pss_nil)
    (pss_cons (ps_if (pt_cmpR op_eq (pv 2) pe_str (nomark _)) (pss_one (ps_ret (pe_op op_ct (pe_callF (okR_L_part_code T 7) (hr.mono (by omega)) (by rfl) (pa_cons (pe_ix ix_t (pv 0) pe_int (fun _ _ => rfl)) pa_nil)) (pe_lstX (pa_cons (pe_tupX (pa_cons pe_str (pa_cons (pe_ix ix_t (pv 0) pe_int (fun _ _ => rfl)) pa_nil))) pa_nil))))) pss_nil)
    (pss_cons (ps_set (i := 5) sc_L_code.nd rfl (Or.inl rfl) (pe_callF (okR_L_part_code T 7) (hr.mono (by omega)) (by rfl) (pa_cons (pe_ix ix_t (pv 0) pe_int (fun _ _ => rfl)) pa_nil)))
    (pss_cons (ps_if (pt_cmpR op_eq (pv 2) pe_str (nomark _)) (pss_cons (ps_set (i := 6) sc_L_code.nd rfl (Or.inl rfl) (pe_callF ih (hr.mono (by omega)) (by rfl) (pa_cons (pe_ix ix_t (pv 0) pe_int (fun _ _ => rfl)) (pa_cons (pe_op op_add (pe_op op_add (pv 1) (pe_callB cl_lenL (by rfl) T.g_len (by decide +kernel) (pa_cons (pv 5) pa_nil))) pe_int) pa_nil))))
    (pss_cons (ps_set (i := 7) sc_L_code.nd rfl (Or.inl rfl) (pe_op op_add (pe_op op_add (pe_op op_add (pv 1) (pe_callB cl_lenL (by rfl) T.g_len (by decide +kernel) (pa_cons (pv 5) pa_nil))) (pe_callB cl_lenL (by rfl) T.g_len (by decide +kernel) (pa_cons (pv 6) pa_nil))) pe_int))
    (pss_one (ps_ret (pe_op op_ct (pe_op op_ct (pe_op op_ct (pe_op op_ct (pe_lstX (pa_cons (pe_tupX (pa_cons pe_str pa_nil)) pa_nil)) (pv 5)) (pe_lstX (pa_cons (pe_tupX (pa_cons pe_str (pa_cons (pv 7) pa_nil))) pa_nil))) (pv 6)) (pe_lstX (pa_cons (pe_tupX (pa_cons pe_str (pa_cons (pv 1) pa_nil))) pa_nil))))))) pss_nil)
    (pss_cons (ps_set (i := 8) sc_L_code.nd rfl (Or.inl rfl) (pe_callF ih (hr.mono (by omega)) (by rfl) (pa_cons (pe_ix ix_t (pv 0) pe_int (fun _ _ => rfl)) (pa_cons (pe_op op_add (pe_op op_add (pv 1) (pe_callB cl_lenL (by rfl) T.g_len (by decide +kernel) (pa_cons (pv 5) pa_nil))) pe_int) pa_nil))))
    (pss_cons (ps_set (i := 9) sc_L_code.nd rfl (Or.inl rfl) (pe_op op_add (pe_op op_add (pe_op op_add (pv 1) (pe_callB cl_lenL (by rfl) T.g_len (by decide +kernel) (pa_cons (pv 5) pa_nil))) (pe_callB cl_lenL (by rfl) T.g_len (by decide +kernel) (pa_cons (pv 8) pa_nil))) pe_int))
    (pss_cons (ps_set (i := 10) sc_L_code.nd rfl (Or.inl rfl) (pe_callF ih (hr.mono (by omega)) (by rfl) (pa_cons (pe_ix ix_t (pv 0) pe_int (fun _ _ => rfl)) (pa_cons (pv 9) pa_nil))))
    (pss_one (ps_ret (pe_op op_ct (pe_op op_ct (pe_op op_ct (pe_op op_ct (pv 5) (pe_lstX (pa_cons (pe_tupX (pa_cons pe_str (pa_cons (pv 9) pa_nil))) pa_nil))) (pv 8)) (pe_lstX (pa_cons (pe_tupX (pa_cons pe_str (pa_cons (pe_op op_add (pv 9) (pe_callB cl_lenL (by rfl) T.g_len (by decide +kernel) (pa_cons (pv 10) pa_nil))) pa_nil))) pa_nil))) (pv 10)))))))))))))
theorem okG_L_code (T : Top K mg c) : ∀ n : Nat, OkF P w K mg base (n + 7) "_law_code" ["_law_one", "_law_base"] (sp_L_code n)
  | 0 => (DefAt.none T.d_L_code (fun _ _ _ _ _ _ us hl => match us, hl with | [_, _], _ => rfl) no_L_code).mono (Nat.zero_le _)
  | n + 1 => ok_L_code T n (okG_L_code T n)
theorem okR_L_code (T : Top K mg c) (n : Nat) : OkF P w K mg base (n + 7) "_law_code" ["_law_one", "_law_base"] (sp_L_code n) := (okG_L_code T n)

abbrev nm_L_coded : List Str := ["_law_program_here"]
theorem sc_L_coded : FnScope nm_L_coded ["_law_program_here"] (defScope s_L_coded) := ⟨rfl, rfl, rfl, by decide +kernel, rfl, by decide +kernel, by decide +kernel⟩
theorem ok_L_coded (T : Top K mg c) : OkF P w K mg base (28) "_law_coded" ["_law_program_here"] sp_L_coded := by
  refine DefAt.ok (k := 27) T.d_L_coded sc_L_coded (fun _ _ _ _ _ _ us hl => match us, hl with | [_], _ => rfl) len_L_coded (fun f cdv A outer s H vs Q E hr h => ⟨t_L_coded K, ?_, fun z => rd_L_coded h⟩)
  have hu := hu_of hr
  exact (pss_one (ps_ret (pe_callTy cl_tupL (by rfl) T.g_tuple (by decide +kernel) (pa_cons (pe_op op_ct (pe_callF (okR_L_code T 20) (hr.mono (by decide)) (by rfl) (pa_cons (pv 0) (pa_cons pe_int pa_nil))) (pe_lstX (pa_cons (pe_tupX (pa_cons pe_str pa_nil)) pa_nil))) pa_nil))))

abbrev nm_L_guesses : List Str := ["_law_box", "_law_code_here", "_law_kinds", "_law_ways", "_law_k"]
theorem sc_L_guesses : FnScope nm_L_guesses ["_law_box", "_law_code_here"] (defScope s_L_guesses) := ⟨rfl, rfl, rfl, by decide +kernel, rfl, by decide +kernel, by decide +kernel⟩
theorem ok_L_guesses (T : Top K mg c) : OkF P w K mg base (2) "_law_guesses" ["_law_box", "_law_code_here"] sp_L_guesses := by
  refine DefAt.ok (k := 1) T.d_L_guesses sc_L_guesses (fun _ _ _ _ _ _ us hl => match us, hl with | [_, _], _ => rfl) len_L_guesses (fun f cdv A outer s H vs Q E hr h => ⟨t_L_guesses K, ?_, fun z => rd_L_guesses h⟩)
  have hu := hu_of hr
  exact (pss_cons (ps_set (i := 2) sc_L_guesses.nd rfl (Or.inl rfl) pe_dicX)
    (pss_cons (ps_set (i := 3) sc_L_guesses.nd rfl (Or.inl rfl) pe_dicX)
    (pss_cons (ps_for PassesOwn.never rfl (pi_range1 (by rfl) T.g_range (pa_cons (pe_callB cl_lenT (by rfl) T.g_len (by decide +kernel) (pa_cons (pv 1) pa_nil)) pa_nil)) (pg_name (i := 4) sc_L_guesses.nd rfl (Or.inl rfl))
    (pss_cons (ps_if (PW.pt (pw_and (pt_cmpR op_inT (pe_ix ix_t (pe_ix ix_t (pv 1) (pv 4) (fun _ _ => rfl)) pe_int (fun _ _ => rfl)) (pe_tupX (pa_cons pe_str (pa_cons pe_str (pa_cons pe_str pa_nil)))) (by rfl)) (pw_and1 (pt_cmpR op_gt (pe_callF (ok_L_take T) (hr.mono (by decide)) (by rfl) (pa_cons (pv 0) (pa_cons pe_int pa_nil))) pe_int (nomark _))))) (pss_one (ps_putI hu (pv 2) (pv 4) (pe_tupX (pa_cons (pe_ix ix_str pe_str (pe_callF (ok_L_take T) (hr.mono (by decide)) (by rfl) (pa_cons (pv 0) (pa_cons pe_int pa_nil))) (fun _ _ => rfl)) (pa_cons (pe_ix ix_str pe_str (pe_callF (ok_L_take T) (hr.mono (by decide)) (by rfl) (pa_cons (pv 0) (pa_cons pe_int pa_nil))) (fun _ _ => rfl)) pa_nil))))) pss_nil)
    (pss_one (ps_if (PW.pt (pw_and (pt_cmpR op_eq (pe_ix ix_t (pe_ix ix_t (pv 1) (pv 4) (fun _ _ => rfl)) pe_int (fun _ _ => rfl)) pe_str (nomark _)) (pw_and1 (pt_cmpR op_gt (pe_callF (ok_L_take T) (hr.mono (by decide)) (by rfl) (pa_cons (pv 0) (pa_cons pe_int pa_nil))) pe_int (nomark _))))) (pss_one (ps_putI hu (pv 3) (pv 4) (pe_cmpR op_gt (pe_callF (ok_L_take T) (hr.mono (by decide)) (by rfl) (pa_cons (pv 0) (pa_cons pe_int pa_nil))) pe_int (nomark _)))) pss_nil))))
    (pss_one (ps_ret (pe_tupX (pa_cons (pv 2) (pa_cons (pv 3) pa_nil))))))))

abbrev nm_Notes___init__ : List Str := ["self", "kinds", "ways"]
theorem sc_Notes___init__ : FnScope nm_Notes___init__ ["self", "kinds", "ways"] (defScope s_Notes___init__) := ⟨rfl, rfl, rfl, by decide +kernel, rfl, by decide +kernel, by decide +kernel⟩
theorem ok_Notes___init__ (T : Top K mg c) : OkI P w K mg base (1) c.notes ["self", "kinds", "ways"] (sp_Notes___init__ c) := by
  refine InitAt.ok (k := 0) T.d_Notes___init__ sc_Notes___init__ (fun _ _ _ _ _ _ us hl => match us, hl with | [_, _, _], _ => rfl) len_Notes___init__ (fun f cdv A outer s H vs Q E hr h => ⟨t_Notes___init__ K c, ?_, fun z => rd_Notes___init__ h⟩)
  have hu := hu_of hr
  exact (pss_cons (ps_fldC T.cl_Notes T.na_Notes_kinds (pv 0) (pe_callTy cl_dctD (by rfl) T.g_dict (by decide +kernel) (pa_cons (pv 1) pa_nil)))
    (pss_cons (ps_fldC T.cl_Notes T.na_Notes_ways (pv 0) (pe_callTy cl_dctD (by rfl) T.g_dict (by decide +kernel) (pa_cons (pv 2) pa_nil)))
    (pss_one (ps_fldC T.cl_Notes T.na_Notes_tops (pv 0) pe_dicX))))

abbrev nm_L_new : List Str := ["_law_m", "_law_kind", "_law_number"]
theorem sc_L_new : FnScope nm_L_new ["_law_m", "_law_kind"] (defScope s_L_new) := ⟨rfl, rfl, rfl, by decide +kernel, rfl, by decide +kernel, by decide +kernel⟩
theorem ok_L_new (T : Top K mg c) : OkF P w K mg base (1) "_law_new" ["_law_m", "_law_kind"] sp_L_new := by
  refine DefAt.ok (k := 0) T.d_L_new sc_L_new (fun _ _ _ _ _ _ us hl => match us, hl with | [_, _], _ => rfl) len_L_new (fun f cdv A outer s H vs Q E hr h => ⟨t_L_new K, ?_, fun z => rd_L_new h⟩)
  have hu := hu_of hr
  exact (pss_cons (ps_set (i := 2) sc_L_new.nd rfl (Or.inl rfl) (pe_getS hu (pv 0) pe_str (fun _ _ => rfl)))
    (pss_cons (ps_putS hu (pv 0) pe_str (pe_op op_add (pv 2) pe_int))
    (pss_cons (ps_if (pt_cmpR op_ne (pv 1) pe_str (nomark _)) (pss_one (ps_putI hu (pe_getS hu (pv 0) pe_str (fun _ _ => rfl)) (pv 2) (pv 1))) pss_nil)
    (pss_cons (ps_putS hu (pv 0) pe_str (pe_op op_ct (pe_getS hu (pv 0) pe_str (fun _ _ => rfl)) (pe_lstX (pa_cons (pv 2) pa_nil))))
    (pss_one (ps_ret (pv 2)))))))

abbrev nm_L_exit : List Str := ["_law_m", "_law_place", "_law_names_here", "_law_name_here"]
theorem sc_L_exit : FnScope nm_L_exit ["_law_m", "_law_place"] (defScope s_L_exit) := ⟨rfl, rfl, rfl, by decide +kernel, rfl, by decide +kernel, by decide +kernel⟩
theorem ok_L_exit (T : Top K mg c) : OkF P w K mg base (1) "_law_exit" ["_law_m", "_law_place"] sp_L_exit := by
  refine DefAt.ok (k := 0) T.d_L_exit sc_L_exit (fun _ _ _ _ _ _ us hl => match us, hl with | [_, _], _ => rfl) len_L_exit (fun f cdv A outer s H vs Q E hr h => ⟨t_L_exit K, ?_, fun z => rd_L_exit h⟩)
  have hu := hu_of hr
  exact (pss_cons (ps_set (i := 2) sc_L_exit.nd rfl (Or.inl rfl) (pe_callTy cl_tupL (by rfl) T.g_tuple (by decide +kernel) (pa_cons (pe_lc (own := [("_law_name_here", 3)]) rfl sc_L_exit.nd (pi_list (pe_callB (cl_srtD (by rfl)) (by rfl) T.g_sorted (by decide +kernel) (pa_cons (pe_getS hu (pv 0) pe_str (fun _ _ => rfl)) pa_nil))) (blkOk_by (own := [("_law_name_here", 3)]) (N := nm_L_exit) (sc := defScope s_L_exit) (by decide +kernel)) (fun _ _ _ _ _ => (pg_name (i := 3) sc_L_exit.nd rfl (Or.inl rfl))) (fun _ _ _ _ _ => pts_nil) (fun _ _ _ _ _ => (pe_tupX (pa_cons (pv 3) (pa_cons (pe_getS hu (pe_getS hu (pv 0) pe_str (fun _ _ => rfl)) (pv 3) (fun _ _ => rfl)) pa_nil))))) pa_nil)))
    (pss_one (ps_ret (pe_tupX (pa_cons (pv 1) (pa_cons (pv 2) (pa_cons (pe_callTy cl_tupL (by rfl) T.g_tuple (by decide +kernel) (pa_cons (pe_getS hu (pv 0) pe_str (fun _ _ => rfl)) pa_nil)) pa_nil)))))))

abbrev nm_L_sign : List Str := ["_law_m", "_law_word", "_law_place", "_law_kinds", "_law_pair", "_law_sort", "_law_told", "_law_some", "_law_k", "_law_number"]
theorem sc_L_sign : FnScope nm_L_sign ["_law_m", "_law_word", "_law_place", "_law_kinds"] (defScope s_L_sign) := ⟨rfl, rfl, rfl, by decide +kernel, rfl, by decide +kernel, by decide +kernel⟩
theorem ok_L_sign (T : Top K mg c) : OkF P w K mg base (2) "_law_sign" ["_law_m", "_law_word", "_law_place", "_law_kinds"] sp_L_sign := by
  refine DefAt.ok (k := 1) T.d_L_sign sc_L_sign (fun _ _ _ _ _ _ us hl => match us, hl with | [_, _, _, _], _ => rfl) len_L_sign (fun f cdv A outer s H vs Q E hr h => ⟨t_L_sign K, ?_, fun z => rd_L_sign h⟩)
  have hu := hu_of hr
  exact (pss_cons (ps_set (i := 4) sc_L_sign.nd rfl (Or.inr rfl) (pe_slice sl_l (pe_getS hu (pv 0) pe_str (fun _ _ => rfl)) (po_some (pe_un un_neg pe_int)) po_none))
    (pss_cons (ps_set (i := 5) sc_L_sign.nd rfl (Or.inl rfl) pe_str)
    (pss_cons (ps_if (pt_cmpR op_ne (pv 1) pe_str (nomark _)) (pss_cons (ps_set (i := 6) sc_L_sign.nd rfl (Or.inr rfl) (pe_get2I hu (pv 3) (pv 2) (pe_tupX (pa_cons pe_str (pa_cons pe_str pa_nil)))))
    (pss_cons (ps_setLc (i := 7) (own := [("_law_k", 8)]) rfl sc_L_sign.nd rfl rfl (sw_true rfl rfl rfl (by decide +kernel)) (pi_range1 (by rfl) T.g_range (pa_cons pe_int pa_nil)) (blkOk_by (own := [("_law_k", 8)]) (N := nm_L_sign) (sc := defScope s_L_sign) (by decide +kernel)) (fun _ _ _ _ _ => (pg_name (i := 8) sc_L_sign.nd rfl (Or.inl rfl))) (fun _ _ _ _ _ => pts_nil) (fun _ _ _ _ _ => (pe_get2I hu (pe_getS hu (pv 0) pe_str (fun _ _ => rfl)) (pe_ix ix_l (pv 4) (pv 8) (fun _ _ => rfl)) (pe_ix ix_t (pv 6) (pv 8) (fun _ _ => rfl)))))
    (pss_cons (ps_set (i := 5) sc_L_sign.nd rfl (Or.inl rfl) (pe_ix ix_l (pv 7) pe_int (fun _ _ => rfl)))
    (pss_cons (ps_if (PW.pt (pw_or (pt_cmpR op_inL pe_str (pv 7) (by rfl)) (pw_or1 (pt_cmpR op_ne (pe_ix ix_l (pv 7) pe_int (fun _ _ => rfl)) (pe_ix ix_l (pv 7) pe_int (fun _ _ => rfl)) (nomark _))))) (pss_one (ps_ret pe_bl)) pss_nil)
    (pss_one (ps_for PassesOwn.never rfl (pi_list (pv 4)) (pg_name (i := 9) sc_L_sign.nd rfl (Or.inl rfl))
    (pss_one (ps_if (pt_cmp (pc_ninI hu (pv 9) (pe_getS hu (pv 0) pe_str (fun _ _ => rfl))) (by rfl)) (pss_cons (ps_expr (pe_app (pe_getS hu (pv 0) pe_str (fun _ _ => rfl)) (pe_tupX (pa_cons pe_str (pa_cons (pv 9) (pa_cons (pv 5) (pa_cons (pe_callF (ok_L_exit T) (hr.mono (by decide)) (by rfl) (pa_cons (pv 0) (pa_cons (pv 2) pa_nil))) pa_nil)))))))
    (pss_one (ps_putI hu (pe_getS hu (pv 0) pe_str (fun _ _ => rfl)) (pv 9) (pv 5)))) pss_nil)))))))) pss_nil)
    (pss_cons (ps_putS hu (pv 0) pe_str (pe_slice sl_l (pe_getS hu (pv 0) pe_str (fun _ _ => rfl)) po_none (po_some (pe_un un_neg pe_int))))
    (pss_cons (ps_set (i := 9) sc_L_sign.nd rfl (Or.inl rfl) (pe_callF (ok_L_new T) (hr.mono (by decide)) (by rfl) (pa_cons (pv 0) (pa_cons (pe_ix ix_l (pe_lstX (pa_cons pe_str (pa_cons pe_str pa_nil))) (pe_callTy cl_int1 (by rfl) T.g_int (by decide +kernel) (pa_cons (pe_and (pe_cmpR op_eq (pv 5) pe_str (nomark _)) (pe_one (pe_cmpR op_ne (pv 1) pe_str (nomark _)))) pa_nil)) (fun _ _ => rfl)) pa_nil))))
    (pss_cons (ps_expr (pe_app (pe_getS hu (pv 0) pe_str (fun _ _ => rfl)) (pe_tupX (pa_cons (pv 1) (pa_cons (pv 5) (pa_cons (pv 9) (pa_cons (pe_ix ix_l (pv 4) pe_int (fun _ _ => rfl)) (pa_cons (pe_ix ix_l (pv 4) pe_int (fun _ _ => rfl)) pa_nil))))))))
    (pss_one (ps_ret pe_bl))))))))

abbrev nm_L_follow : List Str := ["_law_m", "_law_code_here", "_law_place", "_law_kinds", "_law_ways", "_law_row_here", "_law_word", "_law_last", "_law_goals", "_law_yes"]
theorem sc_L_follow : FnScope nm_L_follow ["_law_m", "_law_code_here", "_law_place", "_law_kinds", "_law_ways"] (defScope s_L_follow) := ⟨rfl, rfl, rfl, by decide +kernel, rfl, by decide +kernel, by decide +kernel⟩
theorem ok_L_follow (T : Top K mg c) : OkF P w K mg base (3) "_law_follow" ["_law_m", "_law_code_here", "_law_place", "_law_kinds", "_law_ways"] sp_L_follow := by
  refine DefAt.ok (k := 2) T.d_L_follow sc_L_follow (fun _ _ _ _ _ _ us hl => match us, hl with | [_, _, _, _, _], _ => rfl) len_L_follow (fun f cdv A outer s H vs Q E hr h => ⟨t_L_follow K, ?_, fun z => rd_L_follow h⟩)
  have hu := hu_of hr
  exact (pss_cons (ps_set (i := 5) sc_L_follow.nd rfl (Or.inl rfl) (pe_ix ix_t (pv 1) (pv 2) (fun _ _ => rfl)))
    (pss_cons (ps_set (i := 6) sc_L_follow.nd rfl (Or.inl rfl) (pe_ix ix_t (pv 5) pe_int (fun _ _ => rfl)))
    (pss_cons (ps_if (pt_cmpR op_inT (pv 6) (pe_tupX (pa_cons pe_str (pa_cons pe_str pa_nil))) (by rfl)) (pss_one (ps_expr (pe_app (pe_getS hu (pv 0) pe_str (fun _ _ => rfl)) (pe_tupX (pa_cons (pv 6) (pa_cons (pe_callF (ok_L_new T) (hr.mono (by decide)) (by rfl) (pa_cons (pv 0) (pa_cons (pe_ix ix_str (pv 6) pe_int (fun _ _ => rfl)) pa_nil))) (pa_cons (pe_ix ix_t (pv 5) pe_int (fun _ _ => rfl)) pa_nil))))))) (pss_one (ps_if (pt_cmpR op_eq (pv 6) pe_str (nomark _)) (pss_one (ps_if (pt_cmp (pc_ninS hu (pe_ix ix_t (pv 5) pe_int (fun _ _ => rfl)) (pe_getS hu (pv 0) pe_str (fun _ _ => rfl))) (by rfl)) (pss_cons (ps_putS hu (pe_getS hu (pv 0) pe_str (fun _ _ => rfl)) (pe_ix ix_t (pv 5) pe_int (fun _ _ => rfl)) (pe_callF (ok_L_new T) (hr.mono (by decide)) (by rfl) (pa_cons (pv 0) (pa_cons pe_str pa_nil))))
    (pss_one (ps_expr (pe_app (pe_getS hu (pv 0) pe_str (fun _ _ => rfl)) (pe_tupX (pa_cons pe_str (pa_cons (pe_getS hu (pe_getS hu (pv 0) pe_str (fun _ _ => rfl)) (pe_ix ix_t (pv 5) pe_int (fun _ _ => rfl)) (fun _ _ => rfl)) (pa_cons (pe_ix ix_t (pv 5) pe_int (fun _ _ => rfl)) pa_nil)))))))) (pss_one (ps_putS hu (pv 0) pe_str (pe_op op_ct (pe_getS hu (pv 0) pe_str (fun _ _ => rfl)) (pe_lstX (pa_cons (pe_getS hu (pe_getS hu (pv 0) pe_str (fun _ _ => rfl)) (pe_ix ix_t (pv 5) pe_int (fun _ _ => rfl)) (fun _ _ => rfl)) pa_nil))))))) (pss_one (ps_if (pt_cmpR op_eq (pv 6) pe_str (nomark _)) (pss_one (ps_ret (pe_ix ix_t (pv 5) pe_int (fun _ _ => rfl)))) (pss_one (ps_if (pt_cmpR op_inT (pv 6) (pe_tupX (pa_cons pe_str (pa_cons pe_str (pa_cons pe_str pa_nil)))) (by rfl)) (pss_cons (ps_if (PW.pt (pw_and (pt_cmpR op_eq (pv 6) pe_str (nomark _)) (pw_and1 (pt_cmp (pc_ninI hu (pv 2) (pv 4)) (by rfl))))) (pss_one (ps_ret (pe_un un_neg pe_int))) pss_nil)
    (pss_cons (ps_set (i := 7) sc_L_follow.nd rfl (Or.inl rfl) (pe_ix ix_l (pe_getS hu (pv 0) pe_str (fun _ _ => rfl)) (pe_un un_neg pe_int) (fun _ _ => rfl)))
    (pss_cons (ps_putS hu (pv 0) pe_str (pe_slice sl_l (pe_getS hu (pv 0) pe_str (fun _ _ => rfl)) po_none (po_some (pe_un un_neg pe_int))))
    (pss_one (ps_if (pt_cmpR op_eq (pv 6) pe_str (nomark _)) (pss_one (ps_expr (pe_app (pe_getS hu (pv 0) pe_str (fun _ _ => rfl)) (pe_tupX (pa_cons pe_str (pa_cons (pv 7) pa_nil)))))) (pss_one (ps_if (pt_cmpR op_eq (pv 6) pe_str (nomark _)) (pss_cons (ps_putS hu (pe_getS hu (pv 0) pe_str (fun _ _ => rfl)) (pe_ix ix_t (pv 5) pe_int (fun _ _ => rfl)) (pv 7))
    (pss_one (ps_putS hu (pe_getS hu (pv 0) pe_str (fun _ _ => rfl)) (pe_ix ix_t (pv 5) pe_int (fun _ _ => rfl)) pe_bl))) (pss_cons (ps_set (i := 8) sc_L_follow.nd rfl (Or.inl rfl) (pe_lstX (pa_cons (pe_ix ix_t (pv 5) pe_int (fun _ _ => rfl)) (pa_cons (pe_op op_add (pv 2) pe_int) pa_nil))))
    (pss_cons (ps_set (i := 9) sc_L_follow.nd rfl (Or.inl rfl) (pe_callTy cl_int1 (by rfl) T.g_int (by decide +kernel) (pa_cons (pe_getI hu (pv 4) (pv 2) (fun _ _ => rfl)) pa_nil)))
    (pss_cons (ps_expr (pe_app (pe_getS hu (pv 0) pe_str (fun _ _ => rfl)) (pe_tupX (pa_cons pe_str (pa_cons (pv 7) (pa_cons (pv 9) (pa_cons (pe_callF (ok_L_exit T) (hr.mono (by decide)) (by rfl) (pa_cons (pv 0) (pa_cons (pe_ix ix_l (pv 8) (pe_op op_sub pe_int (pv 9)) (fun _ _ => rfl)) pa_nil))) pa_nil)))))))
    (pss_one (ps_ret (pe_ix ix_l (pv 8) (pv 9) (fun _ _ => rfl)))))))))))))) (pss_one (ps_if (pt_not (pt_val (pe_callF (ok_L_sign T) (hr.mono (by decide)) (by rfl) (pa_cons (pv 0) (pa_cons (pv 6) (pa_cons (pv 2) (pa_cons (pv 3) pa_nil))))))) (pss_one (ps_ret (pe_un un_neg pe_int))) pss_nil)))))))))
    (pss_one (ps_ret (pe_op op_add (pv 2) pe_int))))))

abbrev nm_L_quick : List Str := ["_law_code_here", "_law_top", "_law_kinds", "_law_ways", "_law_most", "_law_m", "_law_place", "_law_goal", "_law_puts", "_law_name_here"]
theorem sc_L_quick : FnScope nm_L_quick ["_law_code_here", "_law_top", "_law_kinds", "_law_ways", "_law_most"] (defScope s_L_quick) := ⟨rfl, rfl, rfl, by decide +kernel, rfl, by decide +kernel, by decide +kernel⟩
theorem ok_L_quick (T : Top K mg c) : OkF P w K mg base (4) "_law_quick" ["_law_code_here", "_law_top", "_law_kinds", "_law_ways", "_law_most"] sp_L_quick := by
  refine DefAt.ok (k := 3) T.d_L_quick sc_L_quick (fun _ _ _ _ _ _ us hl => match us, hl with | [_, _, _, _, _], _ => rfl) len_L_quick (fun f cdv A outer s H vs Q E hr h => ⟨t_L_quick K, ?_, fun z => rd_L_quick h⟩)
  have hu := hu_of hr
  exact (pss_cons (ps_set (i := 5) sc_L_quick.nd rfl (Or.inr rfl) (pe_disp (pps_cons pe_str (pe_lstX (pa_cons (pe_tupX (pa_cons pe_str pa_nil)) pa_nil)) (pps_cons pe_str pe_int (pps_cons pe_str pe_dicX (pps_cons pe_str pe_dicX (pps_cons pe_str (pe_lstX pa_nil) (pps_cons pe_str pe_dicX pps_nil)))))) (by rfl) (by rfl) (fun z => by cases z) (by decide)))
    (pss_cons (ps_set (i := 6) sc_L_quick.nd rfl (Or.inl rfl) (pe_op op_add (pv 1) pe_int))
    (pss_cons (ps_while PassesOwn.never (pt_cmpR op_ne (pv 6) (pv 1) (nomark _))
    (pss_cons (ps_set (i := 7) sc_L_quick.nd rfl (Or.inl rfl) (pe_un un_neg pe_int))
    (pss_cons (ps_if (PW.pt (pw_and (pt_cmpR op_ninT (pe_ix ix_t (pe_ix ix_t (pv 0) (pv 6) (fun _ _ => rfl)) pe_int (fun _ _ => rfl)) (pe_tupX (pa_cons pe_str (pa_cons pe_str pa_nil))) (by rfl)) (pw_and1 (pt_cmpR op_lt (pe_callB cl_lenL (by rfl) T.g_len (by decide +kernel) (pa_cons (pe_getS hu (pv 5) pe_str (fun _ _ => rfl)) pa_nil)) (pv 4) (nomark _))))) (pss_one (ps_set (i := 7) sc_L_quick.nd rfl (Or.inl rfl) (pe_callF (ok_L_follow T) (hr.mono (by decide)) (by rfl) (pa_cons (pv 5) (pa_cons (pv 0) (pa_cons (pv 6) (pa_cons (pv 2) (pa_cons (pv 3) pa_nil)))))))) pss_nil)
    (pss_cons (ps_if (pt_cmpR op_lt (pv 7) pe_int (nomark _)) (pss_one (ps_ret (pe_callTy cl_tupL (by rfl) T.g_tuple (by decide +kernel) (pa_cons (pe_op op_ct (pe_getS hu (pv 5) pe_str (fun _ _ => rfl)) (pe_lstX (pa_cons (pe_tupX (pa_cons pe_str (pa_cons (pe_callF (ok_L_exit T) (hr.mono (by decide)) (by rfl) (pa_cons (pv 5) (pa_cons (pv 6) pa_nil))) pa_nil))) pa_nil))) pa_nil)))) pss_nil)
    (pss_one (ps_set (i := 6) sc_L_quick.nd rfl (Or.inl rfl) (pv 7)))))))
    (pss_cons (ps_setLc (i := 8) (own := [("_law_name_here", 9)]) rfl sc_L_quick.nd rfl rfl (sw_true rfl rfl rfl (by decide +kernel)) (pi_list (pe_callB (cl_srtD (by rfl)) (by rfl) T.g_sorted (by decide +kernel) (pa_cons (pe_getS hu (pv 5) pe_str (fun _ _ => rfl)) pa_nil))) (blkOk_by (own := [("_law_name_here", 9)]) (N := nm_L_quick) (sc := defScope s_L_quick) (by decide +kernel)) (fun _ _ _ _ _ => (pg_name (i := 9) sc_L_quick.nd rfl (Or.inl rfl))) (fun _ _ _ _ _ => pts_nil) (fun _ _ _ _ _ => (pe_tupX (pa_cons pe_str (pa_cons (pv 9) (pa_cons (pe_getS hu (pe_getS hu (pv 5) pe_str (fun _ _ => rfl)) (pv 9) (fun _ _ => rfl)) pa_nil))))))
    (pss_one (ps_ret (pe_callTy cl_tupL (by rfl) T.g_tuple (by decide +kernel) (pa_cons (pe_op op_ct (pe_op op_ct (pe_getS hu (pv 5) pe_str (fun _ _ => rfl)) (pv 8)) (pe_lstX (pa_cons (pe_tupX (pa_cons pe_str pa_nil)) pa_nil))) pa_nil))))))))

abbrev nm_Maker___init__ : List Str := ["self", "code", "notes"]
theorem sc_Maker___init__ : FnScope nm_Maker___init__ ["self", "code", "notes"] (defScope s_Maker___init__) := ⟨rfl, rfl, rfl, by decide +kernel, rfl, by decide +kernel, by decide +kernel⟩
theorem ok_Maker___init__ (T : Top K mg c) : OkI P w K mg base (1) c.maker ["self", "code", "notes"] (sp_Maker___init__ c) := by
  refine InitAt.ok (k := 0) T.d_Maker___init__ sc_Maker___init__ (fun _ _ _ _ _ _ us hl => match us, hl with | [_, _, _], _ => rfl) len_Maker___init__ (fun f cdv A outer s H vs Q E hr h => ⟨t_Maker___init__ K c, ?_, fun z => rd_Maker___init__ h⟩)
  have hu := hu_of hr
  exact (pss_cons (ps_fldC T.cl_Maker T.na_Maker_code (pv 0) (pv 1))
    (pss_cons (ps_fldC T.cl_Maker T.na_Maker_guess_kinds (pv 0) (pe_fldC T.cl_Notes T.na_Notes_kinds (pv 2)))
    (pss_cons (ps_fldC T.cl_Maker T.na_Maker_guess_ways (pv 0) (pe_fldC T.cl_Notes T.na_Notes_ways (pv 2)))
    (pss_cons (ps_fldC T.cl_Maker T.na_Maker_rows (pv 0) (pe_lstX pa_nil))
    (pss_cons (ps_fldC T.cl_Maker T.na_Maker_many (pv 0) pe_int)
    (pss_cons (ps_fldC T.cl_Maker T.na_Maker_where (pv 0) pe_dicX)
    (pss_cons (ps_fldC T.cl_Maker T.na_Maker_changed (pv 0) pe_dicX)
    (pss_cons (ps_fldC T.cl_Maker T.na_Maker_half (pv 0) (pe_lstX pa_nil))
    (pss_one (ps_fldC T.cl_Maker T.na_Maker_known (pv 0) pe_dicX))))))))))

abbrev nm_Maker_leaving : List Str := ["self", "place", "names", "name"]
theorem sc_Maker_leaving : FnScope nm_Maker_leaving ["self", "place"] (defScope s_Maker_leaving) := ⟨rfl, rfl, rfl, by decide +kernel, rfl, by decide +kernel, by decide +kernel⟩
theorem ok_Maker_leaving (T : Top K mg c) : OkM P w K mg base (1) c.maker "leaving" ["self", "place"] (sp_Maker_leaving c) := by
  refine MethAt.ok (k := 0) T.d_Maker_leaving sc_Maker_leaving (fun _ _ _ _ _ _ us hl => match us, hl with | [_, _], _ => rfl) len_Maker_leaving (fun f cdv A outer s H vs Q E hr h => ⟨t_Maker_leaving K c, ?_, fun z => rd_Maker_leaving h⟩)
  have hu := hu_of hr
  exact (pss_cons (ps_set (i := 2) sc_Maker_leaving.nd rfl (Or.inl rfl) (pe_callTy cl_tupL (by rfl) T.g_tuple (by decide +kernel) (pa_cons (pe_lc (own := [("name", 3)]) rfl sc_Maker_leaving.nd (pi_list (pe_callB cl_srtL (by rfl) T.g_sorted (by decide +kernel) (pa_cons (pe_callTy (cl_lstD (by rfl)) (by rfl) T.g_list (by decide +kernel) (pa_cons (pe_fldC T.cl_Maker T.na_Maker_changed (pv 0)) pa_nil)) pa_nil))) (blkOk_by (own := [("name", 3)]) (N := nm_Maker_leaving) (sc := defScope s_Maker_leaving) (by decide +kernel)) (fun _ _ _ _ _ => (pg_name (i := 3) sc_Maker_leaving.nd rfl (Or.inl rfl))) (fun _ _ _ _ _ => pts_nil) (fun _ _ _ _ _ => (pe_tupX (pa_cons (pv 3) (pa_cons (pe_getS hu (pe_fldC T.cl_Maker T.na_Maker_where (pv 0)) (pv 3) (fun _ _ => rfl)) pa_nil))))) pa_nil)))
    (pss_one (ps_ret (pe_tupX (pa_cons (pv 1) (pa_cons (pv 2) (pa_cons (pe_callTy cl_tupL (by rfl) T.g_tuple (by decide +kernel) (pa_cons (pe_fldC T.cl_Maker T.na_Maker_half (pv 0)) pa_nil)) pa_nil)))))))

abbrev nm_Maker_way : List Str := ["self", "place", "goes", "number", "goals"]
theorem sc_Maker_way : FnScope nm_Maker_way ["self", "place"] (defScope s_Maker_way) := ⟨rfl, rfl, rfl, by decide +kernel, rfl, by decide +kernel, by decide +kernel⟩
theorem ok_Maker_way (T : Top K mg c) : OkM P w K mg base (2) c.maker "way" ["self", "place"] (sp_Maker_way c) := by
  refine MethAt.ok (k := 1) T.d_Maker_way sc_Maker_way (fun _ _ _ _ _ _ us hl => match us, hl with | [_, _], _ => rfl) len_Maker_way (fun f cdv A outer s H vs Q E hr h => ⟨t_Maker_way K c, ?_, fun z => rd_Maker_way h⟩)
  have hu := hu_of hr
  exact (pss_cons (ps_if (pt_cmp (pc_ninI hu (pv 1) (pe_fldC T.cl_Maker T.na_Maker_guess_ways (pv 0))) (by rfl)) (pss_one (ps_ret (pe_un un_neg pe_int))) pss_nil)
    (pss_cons (ps_set (i := 2) sc_Maker_way.nd rfl (Or.inl rfl) (pe_getI hu (pe_fldC T.cl_Maker T.na_Maker_guess_ways (pv 0)) (pv 1) (fun _ _ => rfl)))
    (pss_cons (ps_set (i := 3) sc_Maker_way.nd rfl (Or.inl rfl) (pe_popL (pe_fldC T.cl_Maker T.na_Maker_half (pv 0))))
    (pss_cons (ps_set (i := 4) sc_Maker_way.nd rfl (Or.inl rfl) (pe_lstX (pa_cons (pe_ix ix_t (pe_ix ix_t (pe_fldC T.cl_Maker T.na_Maker_code (pv 0)) (pv 1) (fun _ _ => rfl)) pe_int (fun _ _ => rfl)) (pa_cons (pe_op op_add (pv 1) pe_int) pa_nil))))
    (pss_cons (ps_expr (pe_app (pe_fldC T.cl_Maker T.na_Maker_rows (pv 0)) (pe_tupX (pa_cons pe_str (pa_cons (pv 3) (pa_cons (pe_callTy cl_int1 (by rfl) T.g_int (by decide +kernel) (pa_cons (pv 2) pa_nil)) (pa_cons (pe_methC (ok_Maker_leaving T) (hr.mono (by decide)) T.cl_Maker (pv 0) (pa_cons (pe_ix ix_l (pv 4) (pe_op op_sub pe_int (pe_callTy cl_int1 (by rfl) T.g_int (by decide +kernel) (pa_cons (pv 2) pa_nil))) (fun _ _ => rfl)) pa_nil)) pa_nil)))))))
    (pss_one (ps_ret (pe_ix ix_l (pv 4) (pe_callTy cl_int1 (by rfl) T.g_int (by decide +kernel) (pa_cons (pv 2) pa_nil)) (fun _ _ => rfl)))))))))

abbrev nm_Maker_slot : List Str := ["self", "kind", "number"]
theorem sc_Maker_slot : FnScope nm_Maker_slot ["self", "kind"] (defScope s_Maker_slot) := ⟨rfl, rfl, rfl, by decide +kernel, rfl, by decide +kernel, by decide +kernel⟩
theorem ok_Maker_slot (T : Top K mg c) : OkM P w K mg base (1) c.maker "slot" ["self", "kind"] (sp_Maker_slot c) := by
  refine MethAt.ok (k := 0) T.d_Maker_slot sc_Maker_slot (fun _ _ _ _ _ _ us hl => match us, hl with | [_, _], _ => rfl) len_Maker_slot (fun f cdv A outer s H vs Q E hr h => ⟨t_Maker_slot K c, ?_, fun z => rd_Maker_slot h⟩)
  have hu := hu_of hr
  exact (pss_cons (ps_set (i := 2) sc_Maker_slot.nd rfl (Or.inl rfl) (pe_fldC T.cl_Maker T.na_Maker_many (pv 0)))
    (pss_cons (ps_fldC T.cl_Maker T.na_Maker_many (pv 0) (pe_op op_add (pv 2) pe_int))
    (pss_cons (ps_if (pt_cmpR op_ne (pv 1) pe_str (nomark _)) (pss_one (ps_putI hu (pe_fldC T.cl_Maker T.na_Maker_known (pv 0)) (pv 2) (pv 1))) pss_nil)
    (pss_one (ps_ret (pv 2))))))

abbrev nm_kind_of : List Str := ["value"]
theorem sc_kind_of : FnScope nm_kind_of ["value"] (defScope s_kind_of) := ⟨rfl, rfl, rfl, by decide +kernel, rfl, by decide +kernel, by decide +kernel⟩
theorem ok_kind_of (T : Top K mg c) : OkF P w K mg base (1) "kind_of" ["value"] sp_kind_of := by
  refine DefAt.ok (k := 0) T.d_kind_of sc_kind_of (fun _ _ _ _ _ _ us hl => match us, hl with | [_], _ => rfl) len_kind_of (fun f cdv A outer s H vs Q E hr h => ⟨t_kind_of K, ?_, fun z => rd_kind_of h⟩)
  have hu := hu_of hr
  exact (pss_cons (ps_if (pt_val (pe_callB (cl_is (T := "str")) (by rfl) T.g_isinstance (by decide +kernel) (pa_cons (pv 0) (pa_cons (pe_bltn (by rfl) T.g_str (by decide +kernel) rfl) pa_nil)))) (pss_one (ps_ret pe_str)) pss_nil)
    (pss_one (ps_ret pe_str)))

abbrev nm_Maker_fixed : List Str := ["self", "row", "number"]
theorem sc_Maker_fixed : FnScope nm_Maker_fixed ["self", "row"] (defScope s_Maker_fixed) := ⟨rfl, rfl, rfl, by decide +kernel, rfl, by decide +kernel, by decide +kernel⟩
theorem ok_Maker_fixed (T : Top K mg c) : OkM P w K mg base (2) c.maker "fixed" ["self", "row"] (sp_Maker_fixed c) := by
  refine MethAt.ok (k := 1) T.d_Maker_fixed sc_Maker_fixed (fun _ _ _ _ _ _ us hl => match us, hl with | [_, _], _ => rfl) len_Maker_fixed (fun f cdv A outer s H vs Q E hr h => ⟨t_Maker_fixed K c, ?_, fun z => rd_Maker_fixed h⟩)
  have hu := hu_of hr
  exact (pss_cons (ps_set (i := 2) sc_Maker_fixed.nd rfl (Or.inl rfl) (pe_methC (ok_Maker_slot T) (hr.mono (by decide)) T.cl_Maker (pv 0) (pa_cons (pe_callF (ok_kind_of T) (hr.mono (by decide)) (by rfl) (pa_cons (pe_ix ix_t (pv 1) pe_int (fun _ _ => rfl)) pa_nil)) pa_nil)))
    (pss_cons (ps_expr (pe_app (pe_fldC T.cl_Maker T.na_Maker_rows (pv 0)) (pe_tupX (pa_cons (pe_ix ix_t (pv 1) pe_int (fun _ _ => rfl)) (pa_cons (pv 2) (pa_cons (pe_ix ix_t (pv 1) pe_int (fun _ _ => rfl)) pa_nil))))))
    (pss_one (ps_expr (pe_app (pe_fldC T.cl_Maker T.na_Maker_half (pv 0)) (pv 2))))))

abbrev nm_Maker_name : List Str := ["self", "name"]
theorem sc_Maker_name : FnScope nm_Maker_name ["self", "name"] (defScope s_Maker_name) := ⟨rfl, rfl, rfl, by decide +kernel, rfl, by decide +kernel, by decide +kernel⟩
theorem ok_Maker_name (T : Top K mg c) : OkM P w K mg base (2) c.maker "name" ["self", "name"] (sp_Maker_name c) := by
  refine MethAt.ok (k := 1) T.d_Maker_name sc_Maker_name (fun _ _ _ _ _ _ us hl => match us, hl with | [_, _], _ => rfl) len_Maker_name (fun f cdv A outer s H vs Q E hr h => ⟨t_Maker_name K c, ?_, fun z => rd_Maker_name h⟩)
  have hu := hu_of hr
  exact (pss_cons (ps_if (pt_cmp (pc_ninS hu (pv 1) (pe_fldC T.cl_Maker T.na_Maker_where (pv 0))) (by rfl)) (pss_cons (ps_putS hu (pe_fldC T.cl_Maker T.na_Maker_where (pv 0)) (pv 1) (pe_methC (ok_Maker_slot T) (hr.mono (by decide)) T.cl_Maker (pv 0) (pa_cons pe_str pa_nil)))
    (pss_one (ps_expr (pe_app (pe_fldC T.cl_Maker T.na_Maker_rows (pv 0)) (pe_tupX (pa_cons pe_str (pa_cons (pe_getS hu (pe_fldC T.cl_Maker T.na_Maker_where (pv 0)) (pv 1) (fun _ _ => rfl)) (pa_cons (pv 1) pa_nil)))))))) pss_nil)
    (pss_one (ps_expr (pe_app (pe_fldC T.cl_Maker T.na_Maker_half (pv 0)) (pe_getS hu (pe_fldC T.cl_Maker T.na_Maker_where (pv 0)) (pv 1) (fun _ _ => rfl))))))

abbrev nm_Maker_guess : List Str := ["self", "place", "told", "one", "two"]
theorem sc_Maker_guess : FnScope nm_Maker_guess ["self", "place"] (defScope s_Maker_guess) := ⟨rfl, rfl, rfl, by decide +kernel, rfl, by decide +kernel, by decide +kernel⟩
theorem ok_Maker_guess (T : Top K mg c) : OkM P w K mg base (1) c.maker "guess" ["self", "place"] (sp_Maker_guess c) := by
  refine MethAt.ok (k := 0) T.d_Maker_guess sc_Maker_guess (fun _ _ _ _ _ _ us hl => match us, hl with | [_, _], _ => rfl) len_Maker_guess (fun f cdv A outer s H vs Q E hr h => ⟨t_Maker_guess K c, ?_, fun z => rd_Maker_guess h⟩)
  have hu := hu_of hr
  exact (pss_cons (ps_set (i := 2) sc_Maker_guess.nd rfl (Or.inl rfl) (pe_get2I hu (pe_fldC T.cl_Maker T.na_Maker_guess_kinds (pv 0)) (pv 1) (pe_tupX (pa_cons pe_str (pa_cons pe_str pa_nil)))))
    (pss_cons (ps_set (i := 3) sc_Maker_guess.nd rfl (Or.inl rfl) (pe_get2I hu (pe_fldC T.cl_Maker T.na_Maker_known (pv 0)) (pe_ix ix_l (pe_fldC T.cl_Maker T.na_Maker_half (pv 0)) (pe_un un_neg pe_int) (fun _ _ => rfl)) (pe_ix ix_t (pv 2) pe_int (fun _ _ => rfl))))
    (pss_cons (ps_set (i := 4) sc_Maker_guess.nd rfl (Or.inl rfl) (pe_get2I hu (pe_fldC T.cl_Maker T.na_Maker_known (pv 0)) (pe_ix ix_l (pe_fldC T.cl_Maker T.na_Maker_half (pv 0)) (pe_un un_neg pe_int) (fun _ _ => rfl)) (pe_ix ix_t (pv 2) pe_int (fun _ _ => rfl))))
    (pss_cons (ps_if (PW.pt (pw_or (pt_cmpR op_eq (pv 3) pe_str (nomark _)) (pw_or (pt_cmpR op_eq (pv 4) pe_str (nomark _)) (pw_or1 (pt_cmpR op_ne (pv 3) (pv 4) (nomark _)))))) (pss_one (ps_ret pe_non)) pss_nil)
    (pss_one (ps_ret (pv 3)))))))

abbrev nm_Maker_guard : List Str := ["self", "number", "kind", "place"]
theorem sc_Maker_guard : FnScope nm_Maker_guard ["self", "number", "kind", "place"] (defScope s_Maker_guard) := ⟨rfl, rfl, rfl, by decide +kernel, rfl, by decide +kernel, by decide +kernel⟩
theorem ok_Maker_guard (T : Top K mg c) : OkM P w K mg base (2) c.maker "guard" ["self", "number", "kind", "place"] (sp_Maker_guard c) := by
  refine MethAt.ok (k := 1) T.d_Maker_guard sc_Maker_guard (fun _ _ _ _ _ _ us hl => match us, hl with | [_, _, _, _], _ => rfl) len_Maker_guard (fun f cdv A outer s H vs Q E hr h => ⟨t_Maker_guard K c, ?_, fun z => rd_Maker_guard h⟩)
  have hu := hu_of hr
  exact (pss_one (ps_if (pt_cmp (pc_ninI hu (pv 1) (pe_fldC T.cl_Maker T.na_Maker_known (pv 0))) (by rfl)) (pss_cons (ps_expr (pe_app (pe_fldC T.cl_Maker T.na_Maker_rows (pv 0)) (pe_tupX (pa_cons pe_str (pa_cons (pv 1) (pa_cons (pv 2) (pa_cons (pe_methC (ok_Maker_leaving T) (hr.mono (by decide)) T.cl_Maker (pv 0) (pa_cons (pv 3) pa_nil)) pa_nil)))))))
    (pss_one (ps_putI hu (pe_fldC T.cl_Maker T.na_Maker_known (pv 0)) (pv 1) (pv 2)))) pss_nil))

abbrev nm_Maker_sign : List Str := ["self", "word", "place", "one", "two", "sort", "made", "number"]
theorem sc_Maker_sign : FnScope nm_Maker_sign ["self", "word", "place"] (defScope s_Maker_sign) := ⟨rfl, rfl, rfl, by decide +kernel, rfl, by decide +kernel, by decide +kernel⟩
theorem ok_Maker_sign (T : Top K mg c) : OkM P w K mg base (3) c.maker "sign" ["self", "word", "place"] (sp_Maker_sign c) := by
  refine MethAt.ok (k := 2) T.d_Maker_sign sc_Maker_sign (fun _ _ _ _ _ _ us hl => match us, hl with | [_, _, _], _ => rfl) len_Maker_sign (fun f cdv A outer s H vs Q E hr h => ⟨t_Maker_sign K c, ?_, fun z => rd_Maker_sign h⟩)
  have hu := hu_of hr
  exact (pss_cons (ps_set (i := 3) sc_Maker_sign.nd rfl (Or.inl rfl) (pe_ix ix_l (pe_fldC T.cl_Maker T.na_Maker_half (pv 0)) (pe_un un_neg pe_int) (fun _ _ => rfl)))
    (pss_cons (ps_set (i := 4) sc_Maker_sign.nd rfl (Or.inl rfl) (pe_ix ix_l (pe_fldC T.cl_Maker T.na_Maker_half (pv 0)) (pe_un un_neg pe_int) (fun _ _ => rfl)))
    (pss_cons (ps_set (i := 5) sc_Maker_sign.nd rfl (Or.inl rfl) pe_str)
    (pss_cons (ps_if (pt_cmpR op_ne (pv 1) pe_str (nomark _)) (pss_cons (ps_set (i := 5) sc_Maker_sign.nd rfl (Or.inl rfl) (pe_methC (ok_Maker_guess T) (hr.mono (by decide)) T.cl_Maker (pv 0) (pa_cons (pv 2) pa_nil)))
    (pss_cons (ps_if (pt_cmpR op_isN1 (pv 5) pe_non (nomark _)) (pss_one (ps_ret pe_bl)) pss_nil)
    (pss_cons (ps_expr (pe_methC (ok_Maker_guard T) (hr.mono (by decide)) T.cl_Maker (pv 0) (pa_cons (pv 3) (pa_cons (pv 5) (pa_cons (pv 2) pa_nil)))))
    (pss_one (ps_expr (pe_methC (ok_Maker_guard T) (hr.mono (by decide)) T.cl_Maker (pv 0) (pa_cons (pv 4) (pa_cons (pv 5) (pa_cons (pv 2) pa_nil))))))))) pss_nil)
    (pss_cons (ps_set (i := 6) sc_Maker_sign.nd rfl (Or.inl rfl) pe_str)
    (pss_cons (ps_if (PW.pt (pw_and (pt_cmpR op_eq (pv 5) pe_str (nomark _)) (pw_and1 (pt_cmpR op_ne (pv 1) pe_str (nomark _))))) (pss_one (ps_set (i := 6) sc_Maker_sign.nd rfl (Or.inl rfl) pe_str)) pss_nil)
    (pss_cons (ps_fldC T.cl_Maker T.na_Maker_half (pv 0) (pe_slice sl_l (pe_fldC T.cl_Maker T.na_Maker_half (pv 0)) po_none (po_some (pe_un un_neg pe_int))))
    (pss_cons (ps_set (i := 7) sc_Maker_sign.nd rfl (Or.inl rfl) (pe_methC (ok_Maker_slot T) (hr.mono (by decide)) T.cl_Maker (pv 0) (pa_cons (pv 6) pa_nil)))
    (pss_cons (ps_expr (pe_app (pe_fldC T.cl_Maker T.na_Maker_rows (pv 0)) (pe_tupX (pa_cons (pv 1) (pa_cons (pv 5) (pa_cons (pv 7) (pa_cons (pv 3) (pa_cons (pv 4) pa_nil))))))))
    (pss_cons (ps_expr (pe_app (pe_fldC T.cl_Maker T.na_Maker_half (pv 0)) (pv 7)))
    (pss_one (ps_ret pe_bl))))))))))))

abbrev nm_Maker_plain : List Str := ["self", "row", "place", "word"]
theorem sc_Maker_plain : FnScope nm_Maker_plain ["self", "row", "place"] (defScope s_Maker_plain) := ⟨rfl, rfl, rfl, by decide +kernel, rfl, by decide +kernel, by decide +kernel⟩
theorem ok_Maker_plain (T : Top K mg c) : OkM P w K mg base (4) c.maker "plain" ["self", "row", "place"] (sp_Maker_plain c) := by
  refine MethAt.ok (k := 3) T.d_Maker_plain sc_Maker_plain (fun _ _ _ _ _ _ us hl => match us, hl with | [_, _, _], _ => rfl) len_Maker_plain (fun f cdv A outer s H vs Q E hr h => ⟨t_Maker_plain K c, ?_, fun z => rd_Maker_plain h⟩)
  have hu := hu_of hr
  exact (pss_cons (ps_set (i := 3) sc_Maker_plain.nd rfl (Or.inl rfl) (pe_ix ix_t (pv 1) pe_int (fun _ _ => rfl)))
    (pss_cons (ps_if (PW.pt (pw_or (pt_cmpR op_eq (pv 3) pe_str (nomark _)) (pw_or1 (pt_cmpR op_eq (pv 3) pe_str (nomark _))))) (pss_one (ps_expr (pe_methC (ok_Maker_fixed T) (hr.mono (by decide)) T.cl_Maker (pv 0) (pa_cons (pv 1) pa_nil)))) (pss_one (ps_if (pt_cmpR op_eq (pv 3) pe_str (nomark _)) (pss_one (ps_expr (pe_methC (ok_Maker_name T) (hr.mono (by decide)) T.cl_Maker (pv 0) (pa_cons (pe_ix ix_t (pv 1) pe_int (fun _ _ => rfl)) pa_nil)))) (pss_one (ps_if (pt_cmpR op_eq (pv 3) pe_str (nomark _)) (pss_cons (ps_putS hu (pe_fldC T.cl_Maker T.na_Maker_where (pv 0)) (pe_ix ix_t (pv 1) pe_int (fun _ _ => rfl)) (pe_popL (pe_fldC T.cl_Maker T.na_Maker_half (pv 0))))
    (pss_one (ps_putS hu (pe_fldC T.cl_Maker T.na_Maker_changed (pv 0)) (pe_ix ix_t (pv 1) pe_int (fun _ _ => rfl)) pe_bl))) (pss_one (ps_if (pt_cmpR op_eq (pv 3) pe_str (nomark _)) (pss_one (ps_expr (pe_app (pe_fldC T.cl_Maker T.na_Maker_rows (pv 0)) (pe_tupX (pa_cons pe_str (pa_cons (pe_popL (pe_fldC T.cl_Maker T.na_Maker_half (pv 0))) pa_nil)))))) (pss_one (ps_ret (pe_methC (ok_Maker_sign T) (hr.mono (by decide)) T.cl_Maker (pv 0) (pa_cons (pv 3) (pa_cons (pv 2) pa_nil))))))))))))
    (pss_one (ps_ret pe_bl))))

abbrev nm_Maker_closed : List Str := ["self", "name"]
theorem sc_Maker_closed : FnScope nm_Maker_closed ["self"] (defScope s_Maker_closed) := ⟨rfl, rfl, rfl, by decide +kernel, rfl, by decide +kernel, by decide +kernel⟩
theorem ok_Maker_closed (T : Top K mg c) : OkM P w K mg base (1) c.maker "closed" ["self"] (sp_Maker_closed c) := by
  refine MethAt.ok (k := 0) T.d_Maker_closed sc_Maker_closed (fun _ _ _ _ _ _ us hl => match us, hl with | [_], _ => rfl) len_Maker_closed (fun f cdv A outer s H vs Q E hr h => ⟨t_Maker_closed K c, ?_, fun z => rd_Maker_closed h⟩)
  have hu := hu_of hr
  exact (pss_cons (ps_for PassesOwn.never rfl (pi_list (pe_callB cl_srtL (by rfl) T.g_sorted (by decide +kernel) (pa_cons (pe_callTy (cl_lstD (by rfl)) (by rfl) T.g_list (by decide +kernel) (pa_cons (pe_fldC T.cl_Maker T.na_Maker_changed (pv 0)) pa_nil)) pa_nil))) (pg_name (i := 1) sc_Maker_closed.nd rfl (Or.inl rfl))
    (pss_one (ps_expr (pe_app (pe_fldC T.cl_Maker T.na_Maker_rows (pv 0)) (pe_tupX (pa_cons pe_str (pa_cons (pv 1) (pa_cons (pe_getS hu (pe_fldC T.cl_Maker T.na_Maker_where (pv 0)) (pv 1) (fun _ _ => rfl)) pa_nil))))))))
    (pss_one (ps_expr (pe_app (pe_fldC T.cl_Maker T.na_Maker_rows (pv 0)) (pe_tupX (pa_cons pe_str pa_nil))))))

abbrev nm_Maker_follow : List Str := ["self", "top", "most", "place", "row", "goal", "good"]
theorem sc_Maker_follow : FnScope nm_Maker_follow ["self", "top", "most"] (defScope s_Maker_follow) := ⟨rfl, rfl, rfl, by decide +kernel, rfl, by decide +kernel, by decide +kernel⟩
theorem ok_Maker_follow (T : Top K mg c) : OkM P w K mg base (5) c.maker "follow" ["self", "top", "most"] (sp_Maker_follow c) := by
  refine MethAt.ok (k := 4) T.d_Maker_follow sc_Maker_follow (fun _ _ _ _ _ _ us hl => match us, hl with | [_, _, _], _ => rfl) len_Maker_follow (fun f cdv A outer s H vs Q E hr h => ⟨t_Maker_follow K c, ?_, fun z => rd_Maker_follow h⟩)
  have hu := hu_of hr
  exact (pss_cons (ps_expr (pe_app (pe_fldC T.cl_Maker T.na_Maker_rows (pv 0)) (pe_tupX (pa_cons pe_str pa_nil))))
    (pss_cons (ps_set (i := 3) sc_Maker_follow.nd rfl (Or.inl rfl) (pe_op op_add (pv 1) pe_int))
    (pss_cons (ps_while PassesOwn.never (pt_cmpR op_ne (pv 3) (pv 1) (nomark _))
    (pss_cons (ps_set (i := 4) sc_Maker_follow.nd rfl (Or.inl rfl) (pe_ix ix_t (pe_fldC T.cl_Maker T.na_Maker_code (pv 0)) (pv 3) (fun _ _ => rfl)))
    (pss_cons (ps_set (i := 5) sc_Maker_follow.nd rfl (Or.inl rfl) (pe_op op_add (pv 3) pe_int))
    (pss_cons (ps_set (i := 6) sc_Maker_follow.nd rfl (Or.inl rfl) (pe_and (pe_cmpR op_lt (pe_callB cl_lenL (by rfl) T.g_len (by decide +kernel) (pa_cons (pe_fldC T.cl_Maker T.na_Maker_rows (pv 0)) pa_nil)) (pv 2) (nomark _)) (pe_one (pe_cmpR op_ninT (pe_ix ix_t (pv 4) pe_int (fun _ _ => rfl)) (pe_tupX (pa_cons pe_str (pa_cons pe_str pa_nil))) (by rfl)))))
    (pss_cons (ps_if (PW.pt (pw_and (pt_val (pv 6)) (pw_and1 (pt_cmpR op_eq (pe_ix ix_t (pv 4) pe_int (fun _ _ => rfl)) pe_str (nomark _))))) (pss_one (ps_set (i := 5) sc_Maker_follow.nd rfl (Or.inl rfl) (pe_ix ix_t (pv 4) pe_int (fun _ _ => rfl)))) (pss_one (ps_if (PW.pt (pw_and (pt_val (pv 6)) (pw_and1 (pt_cmpR op_eq (pe_ix ix_t (pv 4) pe_int (fun _ _ => rfl)) pe_str (nomark _))))) (pss_cons (ps_set (i := 5) sc_Maker_follow.nd rfl (Or.inl rfl) (pe_methC (ok_Maker_way T) (hr.mono (by decide)) T.cl_Maker (pv 0) (pa_cons (pv 3) pa_nil)))
    (pss_one (ps_set (i := 6) sc_Maker_follow.nd rfl (Or.inl rfl) (pe_cmpR op_ge (pv 5) pe_int (nomark _))))) (pss_one (ps_if (pt_val (pv 6)) (pss_one (ps_set (i := 6) sc_Maker_follow.nd rfl (Or.inl rfl) (pe_methC (ok_Maker_plain T) (hr.mono (by decide)) T.cl_Maker (pv 0) (pa_cons (pv 4) (pa_cons (pv 3) pa_nil))))) pss_nil)))))
    (pss_cons (ps_if (pt_not (pt_val (pv 6))) (pss_cons (ps_expr (pe_app (pe_fldC T.cl_Maker T.na_Maker_rows (pv 0)) (pe_tupX (pa_cons pe_str (pa_cons (pe_methC (ok_Maker_leaving T) (hr.mono (by decide)) T.cl_Maker (pv 0) (pa_cons (pv 3) pa_nil)) pa_nil)))))
    (pss_one ps_retN)) pss_nil)
    (pss_one (ps_set (i := 3) sc_Maker_follow.nd rfl (Or.inl rfl) (pv 5)))))))))
    (pss_one (ps_expr (pe_methC0 (ok_Maker_closed T) (hr.mono (by decide)) T.cl_Maker (pv 0)))))))

abbrev nm_quick_rows : List Str := ["code", "top", "notes", "most", "maker"]
theorem sc_quick_rows : FnScope nm_quick_rows ["code", "top", "notes", "most"] (defScope s_quick_rows) := ⟨rfl, rfl, rfl, by decide +kernel, rfl, by decide +kernel, by decide +kernel⟩
theorem ok_quick_rows (T : Top K mg c) : OkF P w K mg base (6) "quick_rows" ["code", "top", "notes", "most"] (sp_quick_rows c) := by
  refine DefAt.ok (k := 5) T.d_quick_rows sc_quick_rows (fun _ _ _ _ _ _ us hl => match us, hl with | [_, _, _, _], _ => rfl) len_quick_rows (fun f cdv A outer s H vs Q E hr h => ⟨t_quick_rows K c, ?_, fun z => rd_quick_rows h⟩)
  have hu := hu_of hr
  exact (pss_cons (ps_if (PW.pt (pw_or (pt_not (pt_chain op_le op_lt pe_int (pv 1) (pe_callB cl_lenT (by rfl) T.g_len (by decide +kernel) (pa_cons (pv 0) pa_nil)))) (pw_or1 (pt_cmpR op_ne (pe_ix ix_t (pe_ix ix_t (pv 0) (pv 1) (fun _ _ => rfl)) pe_int (fun _ _ => rfl)) pe_str (nomark _))))) (pss_one ps_never) pss_nil)
    (pss_cons (ps_set (i := 4) sc_quick_rows.nd rfl (Or.inl rfl) (pe_makeC (ok_Maker___init__ T) (hr.mono (by decide)) (by rfl) T.mg_Maker (pa_cons (pv 0) (pa_cons (pv 2) pa_nil))))
    (pss_cons (ps_expr (pe_methC (ok_Maker_follow T) (hr.mono (by decide)) T.cl_Maker (pv 4) (pa_cons (pv 1) (pa_cons (pv 3) pa_nil))))
    (pss_one (ps_ret (pe_callTy cl_tupL (by rfl) T.g_tuple (by decide +kernel) (pa_cons (pe_fldC T.cl_Maker T.na_Maker_rows (pv 4)) pa_nil)))))))

abbrev nm_L_alike : List Str := ["_law_found", "_law_due", "_law_k"]
theorem sc_L_alike : FnScope nm_L_alike ["_law_found", "_law_due"] (defScope s_L_alike) := ⟨rfl, rfl, rfl, by decide +kernel, rfl, by decide +kernel, by decide +kernel⟩
theorem ok_L_alike (T : Top K mg c) (n : Nat) (ih : OkF P w K mg base (n + 0) "_law_alike" ["_law_found", "_law_due"] (sp_L_alike n)) : OkF P w K mg base (n + 1 + 0) "_law_alike" ["_law_found", "_law_due"] (sp_L_alike (n + 1)) := by
  refine (DefAt.ok (k := n + 0) T.d_L_alike sc_L_alike (fun _ _ _ _ _ _ us hl => match us, hl with | [_, _], _ => rfl) len_L_alike (fun f cdv A outer s H vs Q E hr h => ⟨t_L_alike K n, ?_, fun z => rd_L_alike h z⟩)).mono (by omega)
  have hu := hu_of hr
  exact (pss_cons (ps_if (pt_cmpR op_isN1 (pv 1) pe_non (nomark _)) (pss_one (ps_ret (pe_cmpR op_isN1 (pv 0) pe_non (nomark _)))) pss_nil)
    (pss_cons (ps_if (pt_val (pe_callB (cl_is (T := "bool")) (by rfl) T.g_isinstance (by decide +kernel) (pa_cons (pv 1) (pa_cons (pe_bltn (by rfl) T.g_bool (by decide +kernel) rfl) pa_nil)))) (pss_one (ps_ret (pe_and (pe_callB (cl_is (T := "bool")) (by rfl) T.g_isinstance (by decide +kernel) (pa_cons (pv 0) (pa_cons (pe_bltn (by rfl) T.g_bool (by decide +kernel) rfl) pa_nil))) (pe_one (pe_cmpR op_eq (pv 0) (pv 1) (nomark _)))))) pss_nil)
    (pss_cons (ps_if (pt_val (pe_callB (cl_is (T := "int")) (by rfl) T.g_isinstance (by decide +kernel) (pa_cons (pv 1) (pa_cons (pe_bltn (by rfl) T.g_int (by decide +kernel) rfl) pa_nil)))) (pss_one (ps_ret (pe_and (pe_callB (cl_is (T := "int")) (by rfl) T.g_isinstance (by decide +kernel) (pa_cons (pv 0) (pa_cons (pe_bltn (by rfl) T.g_int (by decide +kernel) rfl) pa_nil))) (pe_and (pe_not (pe_callB (cl_is (T := "bool")) (by rfl) T.g_isinstance (by decide +kernel) (pa_cons (pv 0) (pa_cons (pe_bltn (by rfl) T.g_bool (by decide +kernel) rfl) pa_nil)))) (pe_one (pe_cmpR op_eq (pv 0) (pv 1) (nomark _))))))) pss_nil)
    (pss_cons (ps_if (pt_val (pe_callB (cl_is (T := "str")) (by rfl) T.g_isinstance (by decide +kernel) (pa_cons (pv 1) (pa_cons (pe_bltn (by rfl) T.g_str (by decide +kernel) rfl) pa_nil)))) (pss_one (ps_ret (pe_and (pe_callB (cl_is (T := "str")) (by rfl) T.g_isinstance (by decide +kernel) (pa_cons (pv 0) (pa_cons (pe_bltn (by rfl) T.g_str (by decide +kernel) rfl) pa_nil))) (pe_one (pe_cmpR op_eq (pv 0) (pv 1) (nomark _)))))) pss_nil)
    (pss_cons (ps_if (PW.pt (pw_or (pt_cmpR op_ne (pe_callB (cl_is (T := "tuple")) (by rfl) T.g_isinstance (by decide +kernel) (pa_cons (pv 1) (pa_cons (pe_bltn (by rfl) T.g_tuple (by decide +kernel) rfl) pa_nil))) (pe_callB (cl_is (T := "tuple")) (by rfl) T.g_isinstance (by decide +kernel) (pa_cons (pv 0) (pa_cons (pe_bltn (by rfl) T.g_tuple (by decide +kernel) rfl) pa_nil))) (nomark _)) (pw_or1 (pt_cmpR op_ne (pe_callB (cl_is (T := "list")) (by rfl) T.g_isinstance (by decide +kernel) (pa_cons (pv 1) (pa_cons (pe_bltn (by rfl) T.g_list (by decide +kernel) rfl) pa_nil))) (pe_callB (cl_is (T := "list")) (by rfl) T.g_isinstance (by decide +kernel) (pa_cons (pv 0) (pa_cons (pe_bltn (by rfl) T.g_list (by decide +kernel) rfl) pa_nil))) (nomark _))))) (pss_one (ps_ret pe_bl)) pss_nil)
    (pss_cons (ps_if (pt_cmpR op_ne (pe_callB cl_lenQ (by rfl) T.g_len (by decide +kernel) (pa_cons (pv 0) pa_nil)) (pe_callB cl_lenQ (by rfl) T.g_len (by decide +kernel) (pa_cons (pv 1) pa_nil)) (nomark _)) (pss_one (ps_ret pe_bl)) pss_nil)
    (pss_cons (ps_for PassesOwn.never rfl (pi_range1 (by rfl) T.g_range (pa_cons (pe_callB cl_lenQ (by rfl) T.g_len (by decide +kernel) (pa_cons (pv 1) pa_nil)) pa_nil)) (pg_name (i := 2) sc_L_alike.nd rfl (Or.inl rfl))
    (pss_one (ps_if (pt_not (pt_val (pe_callF ih (hr.mono (by omega)) (by rfl) (pa_cons (pe_ix ix_q (pv 0) (pv 2) (fun _ _ => rfl)) (pa_cons (pe_ix ix_q (pv 1) (pv 2) (fun _ _ => rfl)) pa_nil))))) (pss_one (ps_ret pe_bl)) pss_nil)))
    (pss_one (ps_ret pe_bl)))))))))
theorem okG_L_alike (T : Top K mg c) : ∀ n : Nat, OkF P w K mg base (n + 0) "_law_alike" ["_law_found", "_law_due"] (sp_L_alike n)
  | 0 => (DefAt.none T.d_L_alike (fun _ _ _ _ _ _ us hl => match us, hl with | [_, _], _ => rfl) no_L_alike).mono (Nat.zero_le _)
  | n + 1 => ok_L_alike T n (okG_L_alike T n)
theorem okR_L_alike (T : Top K mg c) (n : Nat) : OkF P w K mg base (n + 0) "_law_alike" ["_law_found", "_law_due"] (sp_L_alike n) := (okG_L_alike T n)

abbrev nm_L_refused : List Str := ["_law_code_here", "_law_place", "_law_notes", "e"]
theorem sc_L_refused : FnScope nm_L_refused ["_law_code_here", "_law_place", "_law_notes"] (defScope s_L_refused) := ⟨rfl, rfl, rfl, by decide +kernel, rfl, by decide +kernel, by decide +kernel⟩
theorem okX_quick_rows (T : Top K mg c) : OkX P w K mg base (6) "quick_rows" ["code", "top", "notes", "most"] (sp_qrX c) := by
  refine DefAt.okX (k := 5) T.d_quick_rows sc_quick_rows (fun _ _ _ _ _ _ us hl => match us, hl with | [_, _, _, _], _ => rfl) len_qrX (fun f cdv A outer s H vs Q E hr h => ⟨t_qrX K c E, ?_, fun z => rd_qrX h⟩)
  have hu := hu_of hr
  exact (pss_cons (ps_if (PW.pt (pw_or (pt_not (pt_chain op_le op_lt pe_int (pv 1) (pe_callB cl_lenT (by rfl) T.g_len (by decide +kernel) (pa_cons (pv 0) pa_nil)))) (pw_or1 (pt_cmpR op_ne (pe_ix ix_t (pe_ix ix_t (pv 0) (pv 1) (fun _ _ => rfl)) pe_int (fun _ _ => rfl)) pe_str (nomark _))))) (pss_one (ps_rz T.x_NoTop rfl (takes_of rfl rfl rfl rfl) (by rfl))) pss_nil) pss_never)
theorem ok_L_refused (T : Top K mg c) : OkF P w K mg base (7) "_law_refused" ["_law_code_here", "_law_place", "_law_notes"] (sp_L_refused c) := by
  refine DefAt.ok (k := 6) T.d_L_refused sc_L_refused (fun _ _ _ _ _ _ us hl => match us, hl with | [_, _, _], _ => rfl) len_L_refused (fun f cdv A outer s H vs Q E hr h => ⟨t_L_refused K c, ?_, fun z => rd_L_refused T.m_NoTop T.k_V T.k_o h⟩)
  have hu := hu_of hr
  exact (pss_cons (ps_try_as (i := 3) rfl rfl sc_L_refused.nd rfl rfl ⟨by rfl, by decide, .inl T.mg_HunchError⟩ takes0 (fun W pn xe tk _ => (pss_one (ps_expr (pe_callX (okX_quick_rows T) (hr.mono (by decide)) (by rfl) tk (pa_cons (pv 0) (pa_cons (pv 1) (pa_cons (pv 2) (pa_cons pe_int pa_nil))))))))
    (fun a oe cls d pn hz hf => pss_if fun e => by
      obtain ⟨rfl, rfl⟩ := e
      exact (pss_one (ps_ret (pe_and (pe_callB (call_isE T.ec hz hf) (by rfl) T.g_isinstance (by decide +kernel) (pa_cons (pv 3) (pa_cons (pe_glob (by rfl) T.mg_NoTop rfl) pa_nil))) (pe_and (pe_callB (call_isE T.ec hz hf) (by rfl) T.g_isinstance (by decide +kernel) (pa_cons (pv 3) (pa_cons (pe_bltn (by rfl) T.g_ValueError (by decide +kernel) rfl) pa_nil))) (pe_one (pe_not (pe_callB (call_isE T.ec hz hf) (by rfl) T.g_isinstance (by decide +kernel) (pa_cons (pv 3) (pa_cons (pe_glob (by rfl) T.mg_Unread rfl) pa_nil)))))))))))
    (pss_one (ps_ret pe_bl)))

abbrev nm_law : List Str := ["_law_script_here", "_law_box", "_law_code_here", "_law_told", "_law_notes", "_law_most", "_law_place", "_law_due"]
theorem sc_law : FnScope nm_law ["_law_script_here"] (defScope s_law) := ⟨rfl, rfl, rfl, by decide +kernel, rfl, by decide +kernel, by decide +kernel⟩
theorem ok_law (T : Top K mg c) : OkF P w K mg base (41) "law" ["_law_script_here"] (sp_law K) := by
  refine DefAt.ok (k := 40) T.d_law sc_law (fun _ _ _ _ _ _ us hl => match us, hl with | [_], _ => rfl) len_law (fun f cdv A outer s H vs Q E hr h => ⟨t_law K c, ?_, fun z => rd_law h⟩)
  have hu := hu_of hr
  exact (pss_cons (ps_set (i := 1) sc_law.nd rfl (Or.inl rfl) (pe_callF (ok_L_script T) (hr.mono (by decide)) (by rfl) (pa_cons (pv 0) pa_nil)))
    (pss_cons (ps_set (i := 2) sc_law.nd rfl (Or.inl rfl) (pe_callF (ok_L_coded T) (hr.mono (by decide)) (by rfl) (pa_cons (pe_callF (ok_L_program T) (hr.mono (by decide)) (by rfl) (pa_cons (pv 1) (pa_cons pe_int pa_nil))) pa_nil)))
    (pss_cons (ps_set (i := 3) sc_law.nd rfl (Or.inl rfl) (pe_callF (ok_L_guesses T) (hr.mono (by decide)) (by rfl) (pa_cons (pv 1) (pa_cons (pv 2) pa_nil))))
    (pss_cons (ps_set (i := 4) sc_law.nd rfl (Or.inl rfl) (pe_makeC (ok_Notes___init__ T) (hr.mono (by decide)) (by rfl) T.mg_Notes (pa_cons (pe_ix ix_t (pv 3) pe_int (fun _ _ => rfl)) (pa_cons (pe_ix ix_t (pv 3) pe_int (fun _ _ => rfl)) pa_nil))))
    (pss_cons (ps_set (i := 5) sc_law.nd rfl (Or.inl rfl) (pe_op op_add pe_int (pe_callF (ok_L_take T) (hr.mono (by decide)) (by rfl) (pa_cons (pv 1) (pa_cons pe_int pa_nil)))))
    (pss_cons (ps_for PassesOwn.never rfl (pi_range2 (by rfl) T.g_range (pa_cons (pe_op op_sub (pe_un un_neg pe_int) (pe_callB cl_lenT (by rfl) T.g_len (by decide +kernel) (pa_cons (pv 2) pa_nil))) (pa_cons (pe_op op_add (pe_callB cl_lenT (by rfl) T.g_len (by decide +kernel) (pa_cons (pv 2) pa_nil)) pe_int) pa_nil))) (pg_name (i := 6) sc_law.nd rfl (Or.inl rfl))
    (pss_one (ps_if (PW.pt (pw_and (pt_chain op_le op_lt pe_int (pv 6) (pe_callB cl_lenT (by rfl) T.g_len (by decide +kernel) (pa_cons (pv 2) pa_nil))) (pw_and1 (pt_cmpR op_eq (pe_ix ix_t (pe_ix ix_t (pv 2) (pv 6) (fun _ _ => rfl)) pe_int (fun _ _ => rfl)) pe_str (nomark _))))) (pss_cons (ps_set (i := 7) sc_law.nd rfl (Or.inl rfl) (pe_callF (ok_L_quick T) (hr.mono (by decide)) (by rfl) (pa_cons (pv 2) (pa_cons (pv 6) (pa_cons (pe_ix ix_t (pv 3) pe_int (fun _ _ => rfl)) (pa_cons (pe_ix ix_t (pv 3) pe_int (fun _ _ => rfl)) (pa_cons (pv 5) pa_nil)))))))
    (pss_one (ps_if (pt_not (pt_val (pe_callF (okR_L_alike T 40) (hr.mono (by decide)) (by rfl) (pa_cons (pe_callF (ok_quick_rows T) (hr.mono (by decide)) (by rfl) (pa_cons (pv 2) (pa_cons (pv 6) (pa_cons (pv 4) (pa_cons (pv 5) pa_nil))))) (pa_cons (pv 7) pa_nil))))) (pss_one (ps_ret pe_bl)) pss_nil))) (pss_one (ps_if (pt_not (pt_val (pe_callF (ok_L_refused T) (hr.mono (by decide)) (by rfl) (pa_cons (pv 2) (pa_cons (pv 6) (pa_cons (pv 4) pa_nil)))))) (pss_one (ps_ret pe_bl)) pss_nil)))))
    (pss_one (ps_ret (pe_and (pe_cmpR (op_eqDX hr.units) (pe_fldC T.cl_Notes T.na_Notes_kinds (pv 4)) (pe_ix ix_t (pv 3) pe_int (fun _ _ => rfl)) (nomark _)) (pe_one (pe_cmpR (op_eqDX hr.units) (pe_fldC T.cl_Notes T.na_Notes_ways (pv 4)) (pe_ix ix_t (pv 3) pe_int (fun _ _ => rfl)) (nomark _))))))))))))

end

def caOf (K : PySem.W.Frag) : CA := ⟨He.ga K "Coder", He.ga K "State", He.ga K "Notes", He.ga K "Maker", He.ga K "Slots", He.ga K "Machine", He.ga K "Words", He.ga K "Reader", He.ga K "HunchError", He.ga K "Unread", He.ga K "NoTop"⟩
theorem top_of {K : PySem.W.Frag} {h : Heap} {mg : Str → Option Value} (X : K.In h) (G : h.Ns mainGlobals mg) {w : World} (ct : He.SaysT faAll fnAll tsE w K) (m : exE K = true) : Top K mg (caOf K) where
  d_L_script := by
    obtain ⟨fd, F⟩ := ct.d.def_ 0 (d := mkD "_law_script" none "_law_script" s_L_script) rfl
    exact ⟨_, fd, F, He.glo_ok X G (ct.d.fact 0 (f := .glo "_law_script") rfl)⟩
  d_L_take := by
    obtain ⟨fd, F⟩ := ct.d.def_ 1 (d := mkD "_law_take" none "_law_take" s_L_take) rfl
    exact ⟨_, fd, F, He.glo_ok X G (ct.d.fact 1 (f := .glo "_law_take") rfl)⟩
  d_L_name := by
    obtain ⟨fd, F⟩ := ct.d.def_ 2 (d := mkD "_law_name" none "_law_name" s_L_name) rfl
    exact ⟨_, fd, F, He.glo_ok X G (ct.d.fact 2 (f := .glo "_law_name") rfl)⟩
  d_L_text := by
    obtain ⟨fd, F⟩ := ct.d.def_ 3 (d := mkD "_law_text" none "_law_text" s_L_text) rfl
    exact ⟨_, fd, F, He.glo_ok X G (ct.d.fact 3 (f := .glo "_law_text") rfl)⟩
  d_L_part := by
    obtain ⟨fd, F⟩ := ct.d.def_ 4 (d := mkD "_law_part" none "_law_part" s_L_part) rfl
    exact ⟨_, fd, F, He.glo_ok X G (ct.d.fact 4 (f := .glo "_law_part") rfl)⟩
  d_L_row := by
    obtain ⟨fd, F⟩ := ct.d.def_ 5 (d := mkD "_law_row" none "_law_row" s_L_row) rfl
    exact ⟨_, fd, F, He.glo_ok X G (ct.d.fact 5 (f := .glo "_law_row") rfl)⟩
  d_L_statement := by
    obtain ⟨fd, F⟩ := ct.d.def_ 6 (d := mkD "_law_statement" none "_law_statement" s_L_statement) rfl
    exact ⟨_, fd, F, He.glo_ok X G (ct.d.fact 6 (f := .glo "_law_statement") rfl)⟩
  d_L_counted := by
    obtain ⟨fd, F⟩ := ct.d.def_ 7 (d := mkD "_law_counted" none "_law_counted" s_L_counted) rfl
    exact ⟨_, fd, F, He.glo_ok X G (ct.d.fact 7 (f := .glo "_law_counted") rfl)⟩
  d_L_program := by
    obtain ⟨fd, F⟩ := ct.d.def_ 8 (d := mkD "_law_program" none "_law_program" s_L_program) rfl
    exact ⟨_, fd, F, He.glo_ok X G (ct.d.fact 8 (f := .glo "_law_program") rfl)⟩
  d_L_part_code := by
    obtain ⟨fd, F⟩ := ct.d.def_ 9 (d := mkD "_law_part_code" none "_law_part_code" s_L_part_code) rfl
    exact ⟨_, fd, F, He.glo_ok X G (ct.d.fact 9 (f := .glo "_law_part_code") rfl)⟩
  d_L_code := by
    obtain ⟨fd, F⟩ := ct.d.def_ 10 (d := mkD "_law_code" none "_law_code" s_L_code) rfl
    exact ⟨_, fd, F, He.glo_ok X G (ct.d.fact 10 (f := .glo "_law_code") rfl)⟩
  d_L_coded := by
    obtain ⟨fd, F⟩ := ct.d.def_ 11 (d := mkD "_law_coded" none "_law_coded" s_L_coded) rfl
    exact ⟨_, fd, F, He.glo_ok X G (ct.d.fact 11 (f := .glo "_law_coded") rfl)⟩
  d_L_guesses := by
    obtain ⟨fd, F⟩ := ct.d.def_ 12 (d := mkD "_law_guesses" none "_law_guesses" s_L_guesses) rfl
    exact ⟨_, fd, F, He.glo_ok X G (ct.d.fact 12 (f := .glo "_law_guesses") rfl)⟩
  d_Notes___init__ := by
    obtain ⟨fd, F⟩ := ct.d.def_ 13 (d := mkD "Notes" (some "__init__") "Notes.__init__" s_Notes___init__) rfl
    exact ⟨_, fd, F, He.mkr_ok (ct.d.fact 64 (f := .mkr "Notes") rfl)⟩
  d_L_new := by
    obtain ⟨fd, F⟩ := ct.d.def_ 14 (d := mkD "_law_new" none "_law_new" s_L_new) rfl
    exact ⟨_, fd, F, He.glo_ok X G (ct.d.fact 13 (f := .glo "_law_new") rfl)⟩
  d_L_exit := by
    obtain ⟨fd, F⟩ := ct.d.def_ 15 (d := mkD "_law_exit" none "_law_exit" s_L_exit) rfl
    exact ⟨_, fd, F, He.glo_ok X G (ct.d.fact 14 (f := .glo "_law_exit") rfl)⟩
  d_L_sign := by
    obtain ⟨fd, F⟩ := ct.d.def_ 16 (d := mkD "_law_sign" none "_law_sign" s_L_sign) rfl
    exact ⟨_, fd, F, He.glo_ok X G (ct.d.fact 15 (f := .glo "_law_sign") rfl)⟩
  d_L_follow := by
    obtain ⟨fd, F⟩ := ct.d.def_ 17 (d := mkD "_law_follow" none "_law_follow" s_L_follow) rfl
    exact ⟨_, fd, F, He.glo_ok X G (ct.d.fact 16 (f := .glo "_law_follow") rfl)⟩
  d_L_quick := by
    obtain ⟨fd, F⟩ := ct.d.def_ 18 (d := mkD "_law_quick" none "_law_quick" s_L_quick) rfl
    exact ⟨_, fd, F, He.glo_ok X G (ct.d.fact 17 (f := .glo "_law_quick") rfl)⟩
  d_Maker___init__ := by
    obtain ⟨fd, F⟩ := ct.d.def_ 19 (d := mkD "Maker" (some "__init__") "Maker.__init__" s_Maker___init__) rfl
    exact ⟨_, fd, F, He.mkr_ok (ct.d.fact 49 (f := .mkr "Maker") rfl)⟩
  d_Maker_leaving := by
    obtain ⟨fd, F⟩ := ct.d.def_ 20 (d := mkD "Maker" (some "leaving") "Maker.leaving" s_Maker_leaving) rfl
    exact ⟨_, fd, F, He.meth_ok (ct.d.fact 39 (f := .meth "Maker" "leaving") rfl)⟩
  d_Maker_way := by
    obtain ⟨fd, F⟩ := ct.d.def_ 21 (d := mkD "Maker" (some "way") "Maker.way" s_Maker_way) rfl
    exact ⟨_, fd, F, He.meth_ok (ct.d.fact 45 (f := .meth "Maker" "way") rfl)⟩
  d_Maker_slot := by
    obtain ⟨fd, F⟩ := ct.d.def_ 22 (d := mkD "Maker" (some "slot") "Maker.slot" s_Maker_slot) rfl
    exact ⟨_, fd, F, He.meth_ok (ct.d.fact 38 (f := .meth "Maker" "slot") rfl)⟩
  d_kind_of := by
    obtain ⟨fd, F⟩ := ct.d.def_ 23 (d := mkD "kind_of" none "kind_of" s_kind_of) rfl
    exact ⟨_, fd, F, He.glo_ok X G (ct.d.fact 18 (f := .glo "kind_of") rfl)⟩
  d_Maker_fixed := by
    obtain ⟨fd, F⟩ := ct.d.def_ 24 (d := mkD "Maker" (some "fixed") "Maker.fixed" s_Maker_fixed) rfl
    exact ⟨_, fd, F, He.meth_ok (ct.d.fact 40 (f := .meth "Maker" "fixed") rfl)⟩
  d_Maker_name := by
    obtain ⟨fd, F⟩ := ct.d.def_ 25 (d := mkD "Maker" (some "name") "Maker.name" s_Maker_name) rfl
    exact ⟨_, fd, F, He.meth_ok (ct.d.fact 41 (f := .meth "Maker" "name") rfl)⟩
  d_Maker_guess := by
    obtain ⟨fd, F⟩ := ct.d.def_ 26 (d := mkD "Maker" (some "guess") "Maker.guess" s_Maker_guess) rfl
    exact ⟨_, fd, F, He.meth_ok (ct.d.fact 42 (f := .meth "Maker" "guess") rfl)⟩
  d_Maker_guard := by
    obtain ⟨fd, F⟩ := ct.d.def_ 27 (d := mkD "Maker" (some "guard") "Maker.guard" s_Maker_guard) rfl
    exact ⟨_, fd, F, He.meth_ok (ct.d.fact 43 (f := .meth "Maker" "guard") rfl)⟩
  d_Maker_sign := by
    obtain ⟨fd, F⟩ := ct.d.def_ 28 (d := mkD "Maker" (some "sign") "Maker.sign" s_Maker_sign) rfl
    exact ⟨_, fd, F, He.meth_ok (ct.d.fact 44 (f := .meth "Maker" "sign") rfl)⟩
  d_Maker_plain := by
    obtain ⟨fd, F⟩ := ct.d.def_ 29 (d := mkD "Maker" (some "plain") "Maker.plain" s_Maker_plain) rfl
    exact ⟨_, fd, F, He.meth_ok (ct.d.fact 46 (f := .meth "Maker" "plain") rfl)⟩
  d_Maker_closed := by
    obtain ⟨fd, F⟩ := ct.d.def_ 30 (d := mkD "Maker" (some "closed") "Maker.closed" s_Maker_closed) rfl
    exact ⟨_, fd, F, He.meth_ok (ct.d.fact 47 (f := .meth "Maker" "closed") rfl)⟩
  d_Maker_follow := by
    obtain ⟨fd, F⟩ := ct.d.def_ 31 (d := mkD "Maker" (some "follow") "Maker.follow" s_Maker_follow) rfl
    exact ⟨_, fd, F, He.meth_ok (ct.d.fact 48 (f := .meth "Maker" "follow") rfl)⟩
  d_quick_rows := by
    obtain ⟨fd, F⟩ := ct.d.def_ 32 (d := mkD "quick_rows" none "quick_rows" s_quick_rows) rfl
    exact ⟨_, fd, F, He.glo_ok X G (ct.d.fact 19 (f := .glo "quick_rows") rfl)⟩
  d_L_alike := by
    obtain ⟨fd, F⟩ := ct.d.def_ 33 (d := mkD "_law_alike" none "_law_alike" s_L_alike) rfl
    exact ⟨_, fd, F, He.glo_ok X G (ct.d.fact 20 (f := .glo "_law_alike") rfl)⟩
  d_L_refused := by
    obtain ⟨fd, F⟩ := ct.d.def_ 34 (d := mkD "_law_refused" none "_law_refused" s_L_refused) rfl
    exact ⟨_, fd, F, He.glo_ok X G (ct.d.fact 21 (f := .glo "_law_refused") rfl)⟩
  d_law := by
    obtain ⟨fd, F⟩ := ct.d.def_ 35 (d := mkD "law" none "law" s_law) rfl
    exact ⟨_, fd, F, He.glo_ok X G (ct.d.fact 22 (f := .glo "law") rfl)⟩
  cl_Maker := He.cls_ok (ct.d.fact 37 (f := .cls "Maker") rfl)
  mg_Maker := He.glo_ok X G (ct.d.fact 36 (f := .glo "Maker") rfl)
  na_Maker_code := He.noat_ok (ct.d.fact 50 (f := .noat "Maker" "code") rfl)
  na_Maker_guess_kinds := He.noat_ok (ct.d.fact 51 (f := .noat "Maker" "guess_kinds") rfl)
  na_Maker_guess_ways := He.noat_ok (ct.d.fact 52 (f := .noat "Maker" "guess_ways") rfl)
  na_Maker_rows := He.noat_ok (ct.d.fact 53 (f := .noat "Maker" "rows") rfl)
  na_Maker_many := He.noat_ok (ct.d.fact 54 (f := .noat "Maker" "many") rfl)
  na_Maker_where := He.noat_ok (ct.d.fact 55 (f := .noat "Maker" "where") rfl)
  na_Maker_changed := He.noat_ok (ct.d.fact 56 (f := .noat "Maker" "changed") rfl)
  na_Maker_half := He.noat_ok (ct.d.fact 57 (f := .noat "Maker" "half") rfl)
  na_Maker_known := He.noat_ok (ct.d.fact 58 (f := .noat "Maker" "known") rfl)
  cl_Notes := He.cls_ok (ct.d.fact 60 (f := .cls "Notes") rfl)
  mg_Notes := He.glo_ok X G (ct.d.fact 59 (f := .glo "Notes") rfl)
  na_Notes_kinds := He.noat_ok (ct.d.fact 65 (f := .noat "Notes" "kinds") rfl)
  na_Notes_ways := He.noat_ok (ct.d.fact 66 (f := .noat "Notes" "ways") rfl)
  na_Notes_tops := He.noat_ok (ct.d.fact 67 (f := .noat "Notes" "tops") rfl)
  g_len := He.free_ok X G (ct.d.fact 23 (f := .free "len") rfl)
  g_range := He.free_ok X G (ct.d.fact 24 (f := .free "range") rfl)
  g_isinstance := He.free_ok X G (ct.d.fact 25 (f := .free "isinstance") rfl)
  g_int := He.free_ok X G (ct.d.fact 26 (f := .free "int") rfl)
  g_str := He.free_ok X G (ct.d.fact 27 (f := .free "str") rfl)
  g_list := He.free_ok X G (ct.d.fact 28 (f := .free "list") rfl)
  g_tuple := He.free_ok X G (ct.d.fact 29 (f := .free "tuple") rfl)
  g_dict := He.free_ok X G (ct.d.fact 30 (f := .free "dict") rfl)
  g_sum := He.free_ok X G (ct.d.fact 31 (f := .free "sum") rfl)
  g_enumerate := He.free_ok X G (ct.d.fact 32 (f := .free "enumerate") rfl)
  g_sorted := He.free_ok X G (ct.d.fact 33 (f := .free "sorted") rfl)
  g_bool := He.free_ok X G (ct.d.fact 34 (f := .free "bool") rfl)
  g_reversed := He.free_ok X G (ct.d.fact 35 (f := .free "reversed") rfl)
  x_NoTop := (fun q => ⟨q.1, He.glo_ok X G (ct.d.fact 70 (f := .glo "NoTop") rfl), q.2.1, q.2.2.1, q.2.2.2⟩) (He.exc_ok (ct.d.fact 71 (f := .exc "NoTop") rfl))
  m_NoTop := He.exm_ok (ct.d.fact 72 (f := .exm "NoTop" "HunchError" true) rfl)
  mg_HunchError := He.glo_ok X G (ct.d.fact 68 (f := .glo "HunchError") rfl)
  mg_Unread := He.glo_ok X G (ct.d.fact 69 (f := .glo "Unread") rfl)
  mg_NoTop := He.glo_ok X G (ct.d.fact 70 (f := .glo "NoTop") rfl)
  g_ValueError := He.free_ok X G (ct.d.fact 73 (f := .free "ValueError") rfl)
  ec := excCB_ok (He.ba m).1
  k_V := of_decide_eq_true (He.ba (He.ba m).2).1
  k_o := of_decide_eq_true (He.ba (He.ba (He.ba m).2).2).1
  k_h := of_decide_eq_true (He.ba (He.ba (He.ba m).2).2).2
theorem facts {P : Program} {w : World} {K : PySem.W.Frag} {h : Heap} {mg : Str → Option Value} {f : Addr} (X : K.In h) (G : h.Ns mainGlobals mg) (hfa : mg ("law" : Str) = some (.ref f)) (ct : He.SaysT faAll fnAll tsE w K) (m : exE K = true) :
    ∃ fd : FuncData, (∀ (s : Shared) (v : Value), BindsTo s fd ⟨[v], []⟩ [("_law_script_here", v)]) ∧ ∀ base : Heap, K.In base → base.Ns mainGlobals mg → FnOk P w K mg base CX0 41 f fd ["_law_script_here"] (sp_law K) := by
  have T := top_of X G ct m
  have c := ct.d
  obtain ⟨fd, F⟩ := c.def_ 35 (d := mkD "law" none "law" s_law) rfl
  have e := hfa.symm.trans (He.glo_ok X G (c.fact 22 (f := .glo "law") rfl))
  have b := FunD.bindsA (ps := ["_law_script_here"]) F fun _ _ _ _ _ _ us hl => match us, hl with | [_], _ => rfl
  cases e
  refine ⟨fd, fun s v => b s [v] rfl, fun base _ _ => ?_⟩
  obtain ⟨f', fd', F', hm, kp, _, fa⟩ := ok_law (P := P) (w := w) (base := base) T
  have e1 := hm.symm.trans hfa
  cases e1
  have e2 := fa.uni (funcAt F)
  cases e2
  exact F'
end Hn
open PySem PySem.W PySem.Calls PyProof.Rows
theorem PySem.Challenge.cw_hunch_k06_quick_rows_by_hand_holds : PySem.Challenge.rw_hunch_k06_quick_rows_by_hand.Holds := by
  w_on; o_law
  refine HandSHeadRun.head_any (r := OpenLaw.row PySem.Challenge.rw_hunch_k06_quick_rows_by_hand) (q := view (OpenLaw.row PySem.Challenge.rw_hunch_k06_quick_rows_by_hand).prog [35]) (H := Hn.hkE) (ob := Hn.obE) (M := 20000) (loose := Hn.looseE) (d := HandSHeadRun.topDef (OpenLaw.row PySem.Challenge.rw_hunch_k06_quick_rows_by_hand).prog 35) (kwd := []) Hn.obE_eq
    (by kernel_rfl) (fun s => by kernel_rfl) Hn.runE (by kernel_rfl) (by kernel_rfl) (by kernel_rfl) (by rfl) (by first | assumption | decide +kernel) (by decide +kernel) ⟨rfl, rfl, rfl, rfl, rfl, by decide +kernel⟩ ?hw ?hc
  case hw => w_witness2
  case hc =>
    refine L2.walk_ofE (l := PySem.Challenge.rw_hunch_k06_quick_rows_by_hand) (n := 63) (k := 41) (x := "_law_script_here") (CX := L2.CX0) rfl (by decide) (by kernel_rfl) ⟨rfl, by decide, by decide⟩ ?F (fun _ _ _ _ z => z)
    intro w mg fa h Y G hmg0
    obtain ⟨K, KX, c⟩ := Y
    have hmg : mg ("law" : PySem.Str) = some (.ref fa) := by
      have e : (HandSHeadRun.topDef (OpenLaw.row PySem.Challenge.rw_hunch_k06_quick_rows_by_hand).prog 35).name = ("law" : PySem.Str) := by kernel_rfl
      rw [← e]
      exact hmg0
    obtain ⟨fd, hb, hF⟩ := Hn.facts (P := (PySem.Challenge.rw_hunch_k06_quick_rows_by_hand).prog) (w := w) KX G hmg c.t c.more
    exact ⟨K, fd, Hn.sp_law K, KX, hb, fun H a ns hl _ hS => ⟨a, ns, rfl, hS, hl, fun _ => rfl⟩, hF⟩


